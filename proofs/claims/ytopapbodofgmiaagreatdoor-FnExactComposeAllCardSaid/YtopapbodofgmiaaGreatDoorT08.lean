/-
  WHAT THE MARKING FUNCTIONS DO (printed by lawgen.py). Own work.
-/
import Derived.Test.YtopapbodofgmiaaGreatDoorT07
import Derived.KernelRfl
import Derived.Test.YtopapbodofgmiaaGreatDoorProg
set_option linter.all false
namespace Go.Fd
set_option maxRecDepth 20000
theorem mark_IntS : MarkS Go.Proofs.Tryz.prog fid_laws_markIntS (fun n : Int => [tv n]) mInt nInt (fun _ => True) := by
  intro a k lvl S id p es r0 kk hw ver st cap hid hv hst h0 hk hl hB
  have hne : id.1 ≠ lvl := by omega
  have hgp : ∀ r, getp (putp es p r) p = some r := fun r => getp_putp hv
  refine sem_of_chk k_laws_markIntS trivial ?_
  simp only [c_laws_markIntS, EVA, ↓reduceIte, Nat.reduceEqDiff, Nat.reduceMul, reduceCtorEq, Nat.reduceAdd, Nat.reduceSub, Nat.reduceLeDiff, Nat.reduceLT, Int.reduceToNat, Int.reduceLE, Int.reduceLT, mens, men]
  refine wp_count (α := Unit) a.length (fun j _ => ⟨lvl, [(0, .hd id p 0 a.length cap st), (1, iI (kJ nInt a k j)), (5, iI j)], [], sset S id (.ar kk (putp es p ((lJ mInt nInt a k j).map (fun n : Int => [tv n]))) true hw ver)⟩) (fun _ _ => True) () ⟨by simp only [r_okmo hne, EVA, ↓reduceIte, Nat.reduceEqDiff, Nat.reduceMul, reduceCtorEq, Nat.reduceAdd, Nat.reduceSub, Nat.reduceLeDiff, Nat.reduceLT, Int.reduceToNat, Int.reduceLE, Int.reduceLT, mens, men], by (simp only [kJ_zero, lJ_zero, EVA, ↓reduceIte, Nat.reduceEqDiff, Nat.reduceMul, reduceCtorEq, Nat.reduceAdd, Nat.reduceSub, Nat.reduceLeDiff, Nat.reduceLT, Int.reduceToNat, Int.reduceLE, Int.reduceLT, mens, men]) <;> rfl⟩ trivial ?_
  intro j _ hj _
  simp only [List.length_map, EVA, ↓reduceIte, Nat.reduceEqDiff, Nat.reduceMul, reduceCtorEq, Nat.reduceAdd, Nat.reduceSub, Nat.reduceLeDiff, Nat.reduceLT, Int.reduceToNat, Int.reduceLE, Int.reduceLT, mens, men]
  refine ite_of (fun hlt => ?_) (fun hge => ?_)
  · have hja : j < a.length := by omega
    obtain ⟨R, hjR, hR, hR'⟩ := lJ_row mInt nInt (fun n : Int => [tv n]) (k := k) hja
    have hge2 := kJ_le nInt (a := a) (k := k) (j := j + 1)
    rw [kJ_succ nInt hja] at hge2
    have hge3 := kJ_ge nInt (a := a) (k := k) (j := j)
    rw [hR]
    try simp only [nInt] at hge2
    try simp only [r_packo hne, r_setObo hne, psset_sset, r_sset, hst, hgp, rset_get hjR, setp_row hv hjR, Nat.zero_add, hja, r_okmo hne, List.length_map, tv, EVA, ↓reduceIte, Nat.reduceEqDiff, Nat.reduceMul, reduceCtorEq, Nat.reduceAdd, Nat.reduceSub, Nat.reduceLeDiff, Nat.reduceLT, Int.reduceToNat, Int.reduceLE, Int.reduceLT, mens, men]
    refine ⟨by rw [fits_i64]; omega, ⟨by rw [fits_i64]; omega, cntJ_intro () hja ?_ trivial⟩⟩
    rw [kJ_succ nInt hja, hR']
    simp only [nInt, mInt, tv, Int.natCast_add, Int.natCast_one, Int.add_assoc]
    try rfl
  · have : j = a.length := by omega
    subst this
    rw [kJ_all, lJ_all]
    exact ⟨rfl, rfl⟩
def mNode (x : TNode) (k : Int) : TNode := { control := k, parent := k + 1, links := mL mInt nInt x.links (k + 1 + 1) }
def nNode (x : TNode) : Nat := 1 + 1 + nL nInt x.links
theorem mark_NodeS : MarkS Go.Proofs.Tryz.prog fid_laws_markNodeS cNode mNode nNode (bdNode 4294967296) := by
  intro a k lvl S id p es r0 kk hw ver st cap hid hv hst h0 hk hl hB
  have hne : id.1 ≠ lvl := by omega
  have hgp : ∀ r, getp (putp es p r) p = some r := fun r => getp_putp hv
  refine sem_of_chk k_laws_markNodeS trivial ?_
  simp only [c_laws_markNodeS, EVA, ↓reduceIte, Nat.reduceEqDiff, Nat.reduceMul, reduceCtorEq, Nat.reduceAdd, Nat.reduceSub, Nat.reduceLeDiff, Nat.reduceLT, Int.reduceToNat, Int.reduceLE, Int.reduceLT, mens, men]
  refine wp_count (α := Unit) a.length (fun j _ => ⟨lvl, [(0, .hd id p 0 a.length cap st), (1, iI (kJ nNode a k j)), (5, iI j)], [], sset S id (.ar kk (putp es p ((lJ mNode nNode a k j).map cNode)) true hw ver)⟩) (fun _ _ => True) () ⟨by simp only [r_okmo hne, EVA, ↓reduceIte, Nat.reduceEqDiff, Nat.reduceMul, reduceCtorEq, Nat.reduceAdd, Nat.reduceSub, Nat.reduceLeDiff, Nat.reduceLT, Int.reduceToNat, Int.reduceLE, Int.reduceLT, mens, men], by (simp only [kJ_zero, lJ_zero, EVA, ↓reduceIte, Nat.reduceEqDiff, Nat.reduceMul, reduceCtorEq, Nat.reduceAdd, Nat.reduceSub, Nat.reduceLeDiff, Nat.reduceLT, Int.reduceToNat, Int.reduceLE, Int.reduceLT, mens, men]) <;> rfl⟩ trivial ?_
  intro j _ hj _
  simp only [List.length_map, EVA, ↓reduceIte, Nat.reduceEqDiff, Nat.reduceMul, reduceCtorEq, Nat.reduceAdd, Nat.reduceSub, Nat.reduceLeDiff, Nat.reduceLT, Int.reduceToNat, Int.reduceLE, Int.reduceLT, mens, men]
  refine ite_of (fun hlt => ?_) (fun hge => ?_)
  · have hja : j < a.length := by omega
    obtain ⟨R, hjR, hR, hR'⟩ := lJ_row mNode nNode cNode (k := k) hja
    have hge2 := kJ_le nNode (a := a) (k := k) (j := j + 1)
    rw [kJ_succ nNode hja] at hge2
    have hge3 := kJ_ge nNode (a := a) (k := k) (j := j)
    rw [hR]
    try simp only [nNode] at hge2
    have hb := hB _ (List.getElem_mem hja)
    have b0 : (a[j]).links.length ≤ 4294967296 := hb
    try simp only [r_packo hne, r_setObo hne, psset_sset, r_sset, hst, hgp, rset_get hjR, setp_row hv hjR, Nat.zero_add, hja, r_okmo hne, List.length_map, cNode, EVA, ↓reduceIte, Nat.reduceEqDiff, Nat.reduceMul, reduceCtorEq, Nat.reduceAdd, Nat.reduceSub, Nat.reduceLeDiff, Nat.reduceLT, Int.reduceToNat, Int.reduceLE, Int.reduceLT, mens, men]
    refine ⟨by rw [fits_i64]; omega, ⟨by rw [fits_i64]; omega, ?_⟩⟩
    simp only [arg1]
    refine kcy_mark mark_IntS hid hv (by omega) (by omega) b0 (fun _ _ => trivial) hjR rfl (by simp only [List.length_map]) ?_
    simp only [List.set_cons_succ, List.set_cons_zero, r_packo hne, r_setObo hne, psset_sset, r_sset, hst, hgp, rset_get hjR, setp_row hv hjR, Nat.zero_add, hja, r_okmo hne, List.length_map, cNode, EVA, ↓reduceIte, Nat.reduceEqDiff, Nat.reduceMul, reduceCtorEq, Nat.reduceAdd, Nat.reduceSub, Nat.reduceLeDiff, Nat.reduceLT, Int.reduceToNat, Int.reduceLE, Int.reduceLT, mens, men]
    refine ⟨by rw [fits_i64]; omega, cntJ_intro () hja ?_ trivial⟩
    rw [kJ_succ nNode hja, hR']
    simp only [nNode, mNode, cNode, Int.natCast_add, Int.natCast_one, Int.add_assoc]
    try rfl
  · have : j = a.length := by omega
    subst this
    rw [kJ_all, lJ_all]
    exact ⟨rfl, rfl⟩
theorem mark_StringS : MarkS Go.Proofs.Tryz.prog fid_laws_markStringS (fun n : ByteArray => [ts n]) mStr nStr (fun x => x.size ≤ 4294967296) := by
  intro a k lvl S id p es r0 kk hw ver st cap hid hv hst h0 hk hl hB
  have hne : id.1 ≠ lvl := by omega
  have hgp : ∀ r, getp (putp es p r) p = some r := fun r => getp_putp hv
  refine sem_of_chk k_laws_markStringS trivial ?_
  simp only [c_laws_markStringS, EVA, ↓reduceIte, Nat.reduceEqDiff, Nat.reduceMul, reduceCtorEq, Nat.reduceAdd, Nat.reduceSub, Nat.reduceLeDiff, Nat.reduceLT, Int.reduceToNat, Int.reduceLE, Int.reduceLT, mens, men]
  refine wp_count (α := Unit) a.length (fun j _ => ⟨lvl, [(0, .hd id p 0 a.length cap st), (1, iI (kJ nStr a k j)), (5, iI j)], [], sset S id (.ar kk (putp es p ((lJ mStr nStr a k j).map (fun n : ByteArray => [ts n]))) true hw ver)⟩) (fun _ _ => True) () ⟨by simp only [r_okmo hne, EVA, ↓reduceIte, Nat.reduceEqDiff, Nat.reduceMul, reduceCtorEq, Nat.reduceAdd, Nat.reduceSub, Nat.reduceLeDiff, Nat.reduceLT, Int.reduceToNat, Int.reduceLE, Int.reduceLT, mens, men], by (simp only [kJ_zero, lJ_zero, EVA, ↓reduceIte, Nat.reduceEqDiff, Nat.reduceMul, reduceCtorEq, Nat.reduceAdd, Nat.reduceSub, Nat.reduceLeDiff, Nat.reduceLT, Int.reduceToNat, Int.reduceLE, Int.reduceLT, mens, men]) <;> rfl⟩ trivial ?_
  intro j _ hj _
  simp only [List.length_map, EVA, ↓reduceIte, Nat.reduceEqDiff, Nat.reduceMul, reduceCtorEq, Nat.reduceAdd, Nat.reduceSub, Nat.reduceLeDiff, Nat.reduceLT, Int.reduceToNat, Int.reduceLE, Int.reduceLT, mens, men]
  refine ite_of (fun hlt => ?_) (fun hge => ?_)
  · have hja : j < a.length := by omega
    obtain ⟨R, hjR, hR, hR'⟩ := lJ_row mStr nStr (fun n : ByteArray => [ts n]) (k := k) hja
    have hge2 := kJ_le nStr (a := a) (k := k) (j := j + 1)
    rw [kJ_succ nStr hja] at hge2
    have hge3 := kJ_ge nStr (a := a) (k := k) (j := j)
    rw [hR]
    try simp only [nStr] at hge2
    try simp only [r_packo hne, r_setObo hne, psset_sset, r_sset, hst, hgp, rset_get hjR, setp_row hv hjR, Nat.zero_add, hja, r_okmo hne, List.length_map, tv, EVA, ↓reduceIte, Nat.reduceEqDiff, Nat.reduceMul, reduceCtorEq, Nat.reduceAdd, Nat.reduceSub, Nat.reduceLeDiff, Nat.reduceLT, Int.reduceToNat, Int.reduceLE, Int.reduceLT, mens, men]
    refine kca_intro (sem_markText (kJ nStr a k j) (by omega)) ?_
    simp only [r_packo hne, r_setObo hne, psset_sset, r_sset, hst, hgp, rset_get hjR, setp_row hv hjR, Nat.zero_add, hja, r_okmo hne, List.length_map, tv, EVA, ↓reduceIte, Nat.reduceEqDiff, Nat.reduceMul, reduceCtorEq, Nat.reduceAdd, Nat.reduceSub, Nat.reduceLeDiff, Nat.reduceLT, Int.reduceToNat, Int.reduceLE, Int.reduceLT, mens, men]
    refine ⟨by rw [fits_i64]; omega, ⟨by rw [fits_i64]; omega, cntJ_intro () hja ?_ trivial⟩⟩
    rw [kJ_succ nStr hja, hR']
    simp only [nStr, mStr, tv, Int.natCast_add, Int.natCast_one, Int.add_assoc]
    try rfl
  · have : j = a.length := by omega
    subst this
    rw [kJ_all, lJ_all]
    exact ⟨rfl, rfl⟩
def mWire (x : TWire) (k : Int) : TWire := { name := markT (k), link := k + 1 }
def nWire (x : TWire) : Nat := 1 + 1
theorem mark_WireS : MarkS Go.Proofs.Tryz.prog fid_laws_markWireS cWire mWire nWire (bdWire 4294967296) := by
  intro a k lvl S id p es r0 kk hw ver st cap hid hv hst h0 hk hl hB
  have hne : id.1 ≠ lvl := by omega
  have hgp : ∀ r, getp (putp es p r) p = some r := fun r => getp_putp hv
  refine sem_of_chk k_laws_markWireS trivial ?_
  simp only [c_laws_markWireS, EVA, ↓reduceIte, Nat.reduceEqDiff, Nat.reduceMul, reduceCtorEq, Nat.reduceAdd, Nat.reduceSub, Nat.reduceLeDiff, Nat.reduceLT, Int.reduceToNat, Int.reduceLE, Int.reduceLT, mens, men]
  refine wp_count (α := Unit) a.length (fun j _ => ⟨lvl, [(0, .hd id p 0 a.length cap st), (1, iI (kJ nWire a k j)), (5, iI j)], [], sset S id (.ar kk (putp es p ((lJ mWire nWire a k j).map cWire)) true hw ver)⟩) (fun _ _ => True) () ⟨by simp only [r_okmo hne, EVA, ↓reduceIte, Nat.reduceEqDiff, Nat.reduceMul, reduceCtorEq, Nat.reduceAdd, Nat.reduceSub, Nat.reduceLeDiff, Nat.reduceLT, Int.reduceToNat, Int.reduceLE, Int.reduceLT, mens, men], by (simp only [kJ_zero, lJ_zero, EVA, ↓reduceIte, Nat.reduceEqDiff, Nat.reduceMul, reduceCtorEq, Nat.reduceAdd, Nat.reduceSub, Nat.reduceLeDiff, Nat.reduceLT, Int.reduceToNat, Int.reduceLE, Int.reduceLT, mens, men]) <;> rfl⟩ trivial ?_
  intro j _ hj _
  simp only [List.length_map, EVA, ↓reduceIte, Nat.reduceEqDiff, Nat.reduceMul, reduceCtorEq, Nat.reduceAdd, Nat.reduceSub, Nat.reduceLeDiff, Nat.reduceLT, Int.reduceToNat, Int.reduceLE, Int.reduceLT, mens, men]
  refine ite_of (fun hlt => ?_) (fun hge => ?_)
  · have hja : j < a.length := by omega
    obtain ⟨R, hjR, hR, hR'⟩ := lJ_row mWire nWire cWire (k := k) hja
    have hge2 := kJ_le nWire (a := a) (k := k) (j := j + 1)
    rw [kJ_succ nWire hja] at hge2
    have hge3 := kJ_ge nWire (a := a) (k := k) (j := j)
    rw [hR]
    try simp only [nWire] at hge2
    have hb := hB _ (List.getElem_mem hja)
    have b0 : (a[j]).name.size ≤ 4294967296 := hb
    try simp only [r_packo hne, r_setObo hne, psset_sset, r_sset, hst, hgp, rset_get hjR, setp_row hv hjR, Nat.zero_add, hja, r_okmo hne, List.length_map, cWire, EVA, ↓reduceIte, Nat.reduceEqDiff, Nat.reduceMul, reduceCtorEq, Nat.reduceAdd, Nat.reduceSub, Nat.reduceLeDiff, Nat.reduceLT, Int.reduceToNat, Int.reduceLE, Int.reduceLT, mens, men]
    refine kca_intro (sem_markText (kJ nWire a k j) (by omega)) ?_
    simp only [r_packo hne, r_setObo hne, psset_sset, r_sset, hst, hgp, rset_get hjR, setp_row hv hjR, Nat.zero_add, hja, r_okmo hne, List.length_map, cWire, EVA, ↓reduceIte, Nat.reduceEqDiff, Nat.reduceMul, reduceCtorEq, Nat.reduceAdd, Nat.reduceSub, Nat.reduceLeDiff, Nat.reduceLT, Int.reduceToNat, Int.reduceLE, Int.reduceLT, mens, men]
    refine ⟨by rw [fits_i64]; omega, ⟨by rw [fits_i64]; omega, ⟨by rw [fits_i64]; omega, cntJ_intro () hja ?_ trivial⟩⟩⟩
    rw [kJ_succ nWire hja, hR']
    simp only [nWire, mWire, cWire, Int.natCast_add, Int.natCast_one, Int.add_assoc]
    try rfl
  · have : j = a.length := by omega
    subst this
    rw [kJ_all, lJ_all]
    exact ⟨rfl, rfl⟩
def mBigraph (x : TBigraph) (k : Int) : TBigraph := { roots := k, nodes := mL mNode nNode x.nodes (k + 1), sites := mL mInt nInt x.sites (k + 1 + (nL nNode x.nodes : Nat)), edges := k + 1 + (nL nNode x.nodes : Nat) + (nL nInt x.sites : Nat), outer := mL mStr nStr x.outer (k + 1 + (nL nNode x.nodes : Nat) + (nL nInt x.sites : Nat) + 1), inner := mL mWire nWire x.inner (k + 1 + (nL nNode x.nodes : Nat) + (nL nInt x.sites : Nat) + 1 + (nL nStr x.outer : Nat)) }
def nEBigraph (x : TBigraph) : Nat := 1 + nL nNode x.nodes + nL nInt x.sites + 1 + nL nStr x.outer + nL nWire x.inner
theorem mark_BigraphS : MarkS Go.Proofs.Tryz.prog fid_laws_markBigraphS cBigraph mBigraph nEBigraph (bdBigraph 4294967296) := by
  intro a k lvl S id p es r0 kk hw ver st cap hid hv hst h0 hk hl hB
  have hne : id.1 ≠ lvl := by omega
  have hgp : ∀ r, getp (putp es p r) p = some r := fun r => getp_putp hv
  refine sem_of_chk k_laws_markBigraphS trivial ?_
  simp only [c_laws_markBigraphS, EVA, ↓reduceIte, Nat.reduceEqDiff, Nat.reduceMul, reduceCtorEq, Nat.reduceAdd, Nat.reduceSub, Nat.reduceLeDiff, Nat.reduceLT, Int.reduceToNat, Int.reduceLE, Int.reduceLT, mens, men]
  refine wp_count (α := Unit) a.length (fun j _ => ⟨lvl, [(0, .hd id p 0 a.length cap st), (1, iI (kJ nEBigraph a k j)), (5, iI j)], [], sset S id (.ar kk (putp es p ((lJ mBigraph nEBigraph a k j).map cBigraph)) true hw ver)⟩) (fun _ _ => True) () ⟨by simp only [r_okmo hne, EVA, ↓reduceIte, Nat.reduceEqDiff, Nat.reduceMul, reduceCtorEq, Nat.reduceAdd, Nat.reduceSub, Nat.reduceLeDiff, Nat.reduceLT, Int.reduceToNat, Int.reduceLE, Int.reduceLT, mens, men], by (simp only [kJ_zero, lJ_zero, EVA, ↓reduceIte, Nat.reduceEqDiff, Nat.reduceMul, reduceCtorEq, Nat.reduceAdd, Nat.reduceSub, Nat.reduceLeDiff, Nat.reduceLT, Int.reduceToNat, Int.reduceLE, Int.reduceLT, mens, men]) <;> rfl⟩ trivial ?_
  intro j _ hj _
  simp only [List.length_map, EVA, ↓reduceIte, Nat.reduceEqDiff, Nat.reduceMul, reduceCtorEq, Nat.reduceAdd, Nat.reduceSub, Nat.reduceLeDiff, Nat.reduceLT, Int.reduceToNat, Int.reduceLE, Int.reduceLT, mens, men]
  refine ite_of (fun hlt => ?_) (fun hge => ?_)
  · have hja : j < a.length := by omega
    obtain ⟨R, hjR, hR, hR'⟩ := lJ_row mBigraph nEBigraph cBigraph (k := k) hja
    have hge2 := kJ_le nEBigraph (a := a) (k := k) (j := j + 1)
    rw [kJ_succ nEBigraph hja] at hge2
    have hge3 := kJ_ge nEBigraph (a := a) (k := k) (j := j)
    rw [hR]
    try simp only [nEBigraph] at hge2
    have hb := hB _ (List.getElem_mem hja)
    obtain ⟨b0, b1, b2, b3, b4, b5, b6⟩ := hb
    try simp only [r_packo hne, r_setObo hne, psset_sset, r_sset, hst, hgp, rset_get hjR, setp_row hv hjR, Nat.zero_add, hja, r_okmo hne, List.length_map, cBigraph, EVA, ↓reduceIte, Nat.reduceEqDiff, Nat.reduceMul, reduceCtorEq, Nat.reduceAdd, Nat.reduceSub, Nat.reduceLeDiff, Nat.reduceLT, Int.reduceToNat, Int.reduceLE, Int.reduceLT, mens, men]
    refine ⟨by rw [fits_i64]; omega, ?_⟩
    simp only [arg1]
    refine kcy_mark mark_NodeS hid hv (by omega) (by omega) b0 b1 hjR rfl (by simp only [List.length_map]) ?_
    simp only [List.set_cons_succ, List.set_cons_zero, r_packo hne, r_setObo hne, psset_sset, r_sset, hst, hgp, rset_get hjR, setp_row hv hjR, Nat.zero_add, hja, r_okmo hne, List.length_map, cBigraph, EVA, ↓reduceIte, Nat.reduceEqDiff, Nat.reduceMul, reduceCtorEq, Nat.reduceAdd, Nat.reduceSub, Nat.reduceLeDiff, Nat.reduceLT, Int.reduceToNat, Int.reduceLE, Int.reduceLT, mens, men]
    simp only [arg1]
    refine kcy_mark mark_IntS hid hv (by omega) (by omega) b2 (fun _ _ => trivial) hjR rfl (by simp only [List.length_map]) ?_
    simp only [List.set_cons_succ, List.set_cons_zero, r_packo hne, r_setObo hne, psset_sset, r_sset, hst, hgp, rset_get hjR, setp_row hv hjR, Nat.zero_add, hja, r_okmo hne, List.length_map, cBigraph, EVA, ↓reduceIte, Nat.reduceEqDiff, Nat.reduceMul, reduceCtorEq, Nat.reduceAdd, Nat.reduceSub, Nat.reduceLeDiff, Nat.reduceLT, Int.reduceToNat, Int.reduceLE, Int.reduceLT, mens, men]
    refine ⟨by rw [fits_i64]; omega, ?_⟩
    simp only [arg1]
    refine kcy_mark mark_StringS hid hv (by omega) (by omega) b3 b4 hjR rfl (by simp only [List.length_map]) ?_
    simp only [List.set_cons_succ, List.set_cons_zero, r_packo hne, r_setObo hne, psset_sset, r_sset, hst, hgp, rset_get hjR, setp_row hv hjR, Nat.zero_add, hja, r_okmo hne, List.length_map, cBigraph, EVA, ↓reduceIte, Nat.reduceEqDiff, Nat.reduceMul, reduceCtorEq, Nat.reduceAdd, Nat.reduceSub, Nat.reduceLeDiff, Nat.reduceLT, Int.reduceToNat, Int.reduceLE, Int.reduceLT, mens, men]
    simp only [arg1]
    refine kcy_mark mark_WireS hid hv (by omega) (by omega) b5 b6 hjR rfl (by simp only [List.length_map]) ?_
    simp only [List.set_cons_succ, List.set_cons_zero, r_packo hne, r_setObo hne, psset_sset, r_sset, hst, hgp, rset_get hjR, setp_row hv hjR, Nat.zero_add, hja, r_okmo hne, List.length_map, cBigraph, EVA, ↓reduceIte, Nat.reduceEqDiff, Nat.reduceMul, reduceCtorEq, Nat.reduceAdd, Nat.reduceSub, Nat.reduceLeDiff, Nat.reduceLT, Int.reduceToNat, Int.reduceLE, Int.reduceLT, mens, men]
    refine ⟨by rw [fits_i64]; omega, cntJ_intro () hja ?_ trivial⟩
    rw [kJ_succ nEBigraph hja, hR']
    simp only [nEBigraph, mBigraph, cBigraph, Int.natCast_add, Int.natCast_one, Int.add_assoc]
    try rfl
  · have : j = a.length := by omega
    subst this
    rw [kJ_all, lJ_all]
    exact ⟨rfl, rfl⟩
def mControl (x : TControl) (k : Int) : TControl := { name := markT (k), ports := k + 1, kind_ := k + 1 + 1 }
def nControl (x : TControl) : Nat := 1 + 1 + 1
theorem mark_ControlS : MarkS Go.Proofs.Tryz.prog fid_laws_markControlS cControl mControl nControl (bdControl 4294967296) := by
  intro a k lvl S id p es r0 kk hw ver st cap hid hv hst h0 hk hl hB
  have hne : id.1 ≠ lvl := by omega
  have hgp : ∀ r, getp (putp es p r) p = some r := fun r => getp_putp hv
  refine sem_of_chk k_laws_markControlS trivial ?_
  simp only [c_laws_markControlS, EVA, ↓reduceIte, Nat.reduceEqDiff, Nat.reduceMul, reduceCtorEq, Nat.reduceAdd, Nat.reduceSub, Nat.reduceLeDiff, Nat.reduceLT, Int.reduceToNat, Int.reduceLE, Int.reduceLT, mens, men]
  refine wp_count (α := Unit) a.length (fun j _ => ⟨lvl, [(0, .hd id p 0 a.length cap st), (1, iI (kJ nControl a k j)), (5, iI j)], [], sset S id (.ar kk (putp es p ((lJ mControl nControl a k j).map cControl)) true hw ver)⟩) (fun _ _ => True) () ⟨by simp only [r_okmo hne, EVA, ↓reduceIte, Nat.reduceEqDiff, Nat.reduceMul, reduceCtorEq, Nat.reduceAdd, Nat.reduceSub, Nat.reduceLeDiff, Nat.reduceLT, Int.reduceToNat, Int.reduceLE, Int.reduceLT, mens, men], by (simp only [kJ_zero, lJ_zero, EVA, ↓reduceIte, Nat.reduceEqDiff, Nat.reduceMul, reduceCtorEq, Nat.reduceAdd, Nat.reduceSub, Nat.reduceLeDiff, Nat.reduceLT, Int.reduceToNat, Int.reduceLE, Int.reduceLT, mens, men]) <;> rfl⟩ trivial ?_
  intro j _ hj _
  simp only [List.length_map, EVA, ↓reduceIte, Nat.reduceEqDiff, Nat.reduceMul, reduceCtorEq, Nat.reduceAdd, Nat.reduceSub, Nat.reduceLeDiff, Nat.reduceLT, Int.reduceToNat, Int.reduceLE, Int.reduceLT, mens, men]
  refine ite_of (fun hlt => ?_) (fun hge => ?_)
  · have hja : j < a.length := by omega
    obtain ⟨R, hjR, hR, hR'⟩ := lJ_row mControl nControl cControl (k := k) hja
    have hge2 := kJ_le nControl (a := a) (k := k) (j := j + 1)
    rw [kJ_succ nControl hja] at hge2
    have hge3 := kJ_ge nControl (a := a) (k := k) (j := j)
    rw [hR]
    try simp only [nControl] at hge2
    have hb := hB _ (List.getElem_mem hja)
    have b0 : (a[j]).name.size ≤ 4294967296 := hb
    try simp only [r_packo hne, r_setObo hne, psset_sset, r_sset, hst, hgp, rset_get hjR, setp_row hv hjR, Nat.zero_add, hja, r_okmo hne, List.length_map, cControl, EVA, ↓reduceIte, Nat.reduceEqDiff, Nat.reduceMul, reduceCtorEq, Nat.reduceAdd, Nat.reduceSub, Nat.reduceLeDiff, Nat.reduceLT, Int.reduceToNat, Int.reduceLE, Int.reduceLT, mens, men]
    refine kca_intro (sem_markText (kJ nControl a k j) (by omega)) ?_
    simp only [r_packo hne, r_setObo hne, psset_sset, r_sset, hst, hgp, rset_get hjR, setp_row hv hjR, Nat.zero_add, hja, r_okmo hne, List.length_map, cControl, EVA, ↓reduceIte, Nat.reduceEqDiff, Nat.reduceMul, reduceCtorEq, Nat.reduceAdd, Nat.reduceSub, Nat.reduceLeDiff, Nat.reduceLT, Int.reduceToNat, Int.reduceLE, Int.reduceLT, mens, men]
    refine ⟨by rw [fits_i64]; omega, ⟨by rw [fits_i64]; omega, ⟨by rw [fits_i64]; omega, ⟨by rw [fits_i64]; omega, cntJ_intro () hja ?_ trivial⟩⟩⟩⟩
    rw [kJ_succ nControl hja, hR']
    simp only [nControl, mControl, cControl, Int.natCast_add, Int.natCast_one, Int.add_assoc]
    try rfl
  · have : j = a.length := by omega
    subst this
    rw [kJ_all, lJ_all]
    exact ⟨rfl, rfl⟩
end Go.Fd

namespace Go.Fd
def c_laws_szBigraph : F2 :=
  { nt := 30, res := [.t 4 [0]], body :=
   (.sq (rg [oo 2 (.bt (.t 0)),
 om 4 (i6 0)])
 (.sq (rg [oo 5 (.fa 1 (.t 2)),
 oo 6 (.ld none (.t 5)),
 om 7 (.t 1),
 oo 8 (.ca .pure false (.f fid_laws_szNodeS) [.t 6, .t 7]),
 om 1 (.t 8)])
 (.sq (.sq (rg [om 9 (.t 1),
 oo 10 (.bi .lss 0 (.t 9) (i6 0))])
 (.cd (.t 10) (.sq (rg [om 4 (i6 (-1))])
 (.rt))
 (.sk)))
 (.sq (rg [oo 11 (.fa 2 (.t 2)),
 oo 12 (.ld none (.t 11)),
 om 13 (.t 1),
 oo 14 (.ca .pure false (.f fid_laws_szIntS) [.t 12, .t 13]),
 om 1 (.t 14)])
 (.sq (.sq (rg [om 15 (.t 1),
 oo 16 (.bi .lss 0 (.t 15) (i6 0))])
 (.cd (.t 16) (.sq (rg [om 4 (i6 (-1))])
 (.rt))
 (.sk)))
 (.sq (rg [oo 17 (.fa 4 (.t 2)),
 oo 18 (.ld none (.t 17)),
 om 19 (.t 1),
 oo 20 (.ca .pure false (.f fid_laws_szStringS) [.t 18, .t 19]),
 om 1 (.t 20)])
 (.sq (.sq (rg [om 21 (.t 1),
 oo 22 (.bi .lss 0 (.t 21) (i6 0))])
 (.cd (.t 22) (.sq (rg [om 4 (i6 (-1))])
 (.rt))
 (.sk)))
 (.sq (rg [oo 23 (.fa 5 (.t 2)),
 oo 24 (.ld none (.t 23)),
 om 25 (.t 1),
 oo 26 (.ca .pure false (.f fid_laws_szWireS) [.t 24, .t 25]),
 om 1 (.t 26)])
 (.sq (.sq (rg [om 27 (.t 1),
 oo 28 (.bi .lss 0 (.t 27) (i6 0))])
 (.cd (.t 28) (.sq (rg [om 4 (i6 (-1))])
 (.rt))
 (.sk)))
 (.sq (rg [om 29 (.t 1),
 om 4 (.t 29)])
 (.rt))))))))))) }
theorem k_laws_szBigraph : chkF Go.Proofs.Tryz.prog fid_laws_szBigraph c_laws_szBigraph = true := by kernel_rfl

def c_laws_toControlS : F2 :=
  { nt := 23, res := [.t 2 [4]], body :=
   (.sq (rg [om 2 (.k (.slice none 0 0))])
 (.sq (rg [om 5 (.t 0),
 oo 6 (.ln (.t 5)),
 oo 7 (.ms 3 [.string ⟨#[]⟩, .int .i64 0, .int .i64 0] (.t 6)),
 om 3 (.t 7)])
 (.sq (.sq (rg [om 4 (i6 0)])
 (.bl 0 (.lp [0, 3, 4] [224] (.sq (.sq (rg [om 8 (.t 4),
 om 9 (.t 0),
 oo 10 (.ln (.t 9)),
 oo 11 (.bi .lss 0 (.t 8) (.t 10))])
 (.cd (.t 11) (.sk)
 (.ex 0)))
 (.sq (.bl 1 (rg [om 14 (.t 3),
 om 15 (.t 4),
 om 16 (.t 0),
 om 17 (.t 4),
 oo 18 (.ia 3 (.t 16) (.t 17)),
 oo 19 (.ld (some 3) (.t 18)),
 oo 20 (.ca .pure true (.f fid_laws_toControl) [.t 19]),
 oo 21 (.ia 3 (.t 14) (.t 15)),
 on1 (.st 3 (.t 21) (.t 20))]))
 (rg [om 12 (.t 4),
 oo 13 (.bi .add 0 (.t 12) (i6 1)),
 om 4 (.t 13)]))))))
 (.sq (rg [om 22 (.t 3),
 om 2 (.t 22)])
 (.rt))))) }
theorem k_laws_toControlS : chkF Go.Proofs.Tryz.prog fid_laws_toControlS c_laws_toControlS = true := by kernel_rfl

def c_laws_toBigraph : F2 :=
  { nt := 27, res := [.c 2 (some 6) [0, 4, 2, 0, 2, 3]], body :=
   (.sq (rg [oo 1 (.bt (.t 0)),
 oo 2 (.al [.int .i64 0, .slice none 0 0, .slice none 0 0, .int .i64 0, .slice none 0 0, .slice none 0 0] [])])
 (.sq (rg [oo 3 (.al [.int .i64 0, .slice none 0 0, .slice none 0 0, .int .i64 0, .slice none 0 0, .slice none 0 0] [])])
 (.sq (rg [oo 4 (.fa 0 (.t 1)),
 oo 5 (.ld none (.t 4)),
 oo 6 (.fa 0 (.t 3)),
 on1 (.st 1 (.t 6) (.t 5))])
 (.sq (rg [oo 7 (.fa 1 (.t 1)),
 oo 8 (.ld none (.t 7)),
 oo 9 (.ca .pure true (.f fid_laws_toNodeS) [.t 8]),
 oo 10 (.fa 1 (.t 3)),
 on1 (.st 1 (.t 10) (.t 9))])
 (.sq (rg [oo 11 (.fa 2 (.t 1)),
 oo 12 (.ld none (.t 11)),
 oo 13 (.ca .pure true (.f fid_laws_toIntS) [.t 12]),
 oo 14 (.fa 2 (.t 3)),
 on1 (.st 1 (.t 14) (.t 13))])
 (.sq (rg [oo 15 (.fa 3 (.t 1)),
 oo 16 (.ld none (.t 15)),
 oo 17 (.fa 3 (.t 3)),
 on1 (.st 1 (.t 17) (.t 16))])
 (.sq (rg [oo 18 (.fa 4 (.t 1)),
 oo 19 (.ld none (.t 18)),
 oo 20 (.ca .pure true (.f fid_laws_toStringS) [.t 19]),
 oo 21 (.fa 4 (.t 3)),
 on1 (.st 1 (.t 21) (.t 20))])
 (.sq (rg [oo 22 (.fa 5 (.t 1)),
 oo 23 (.ld none (.t 22)),
 oo 24 (.ca .pure true (.f fid_laws_toWireS) [.t 23]),
 oo 25 (.fa 5 (.t 3)),
 on1 (.st 1 (.t 25) (.t 24))])
 (.sq (rg [oo 26 (.ld (some 6) (.t 3)),
 on1 (.st 6 (.t 2) (.t 26))])
 (.rt)))))))))) }
theorem k_laws_toBigraph : chkF Go.Proofs.Tryz.prog fid_laws_toBigraph c_laws_toBigraph = true := by kernel_rfl

def c_laws_eqBigraph : F2 :=
  { nt := 39, res := [.t 4 [0]], body :=
   (.sq (rg [oo 2 (.bt (.t 0)),
 oo 3 (.bt (.t 1)),
 om 4 (.k (.bool false))])
 (.sq (.sq (rg [oo 5 (.fa 0 (.t 2)),
 oo 6 (.ld none (.t 5)),
 oo 7 (.fa 0 (.t 3)),
 oo 8 (.ld none (.t 7)),
 oo 9 (.bi .neq 0 (.t 6) (.t 8))])
 (.cd (.t 9) (.sq (rg [om 4 (.k (.bool false))])
 (.rt))
 (.sk)))
 (.sq (.sq (rg [oo 10 (.fa 1 (.t 2)),
 oo 11 (.ld none (.t 10)),
 oo 12 (.fa 1 (.t 3)),
 oo 13 (.ld none (.t 12)),
 oo 14 (.ca .pure false (.f fid_laws_eqNodeS) [.t 11, .t 13]),
 oo 15 (.nt (.t 14))])
 (.cd (.t 15) (.sq (rg [om 4 (.k (.bool false))])
 (.rt))
 (.sk)))
 (.sq (.sq (rg [oo 16 (.fa 2 (.t 2)),
 oo 17 (.ld none (.t 16)),
 oo 18 (.fa 2 (.t 3)),
 oo 19 (.ld none (.t 18)),
 oo 20 (.ca .pure false (.f fid_laws_eqIntS) [.t 17, .t 19]),
 oo 21 (.nt (.t 20))])
 (.cd (.t 21) (.sq (rg [om 4 (.k (.bool false))])
 (.rt))
 (.sk)))
 (.sq (.sq (rg [oo 22 (.fa 3 (.t 2)),
 oo 23 (.ld none (.t 22)),
 oo 24 (.fa 3 (.t 3)),
 oo 25 (.ld none (.t 24)),
 oo 26 (.bi .neq 0 (.t 23) (.t 25))])
 (.cd (.t 26) (.sq (rg [om 4 (.k (.bool false))])
 (.rt))
 (.sk)))
 (.sq (.sq (rg [oo 27 (.fa 4 (.t 2)),
 oo 28 (.ld none (.t 27)),
 oo 29 (.fa 4 (.t 3)),
 oo 30 (.ld none (.t 29)),
 oo 31 (.ca .pure false (.f fid_laws_eqStringS) [.t 28, .t 30]),
 oo 32 (.nt (.t 31))])
 (.cd (.t 32) (.sq (rg [om 4 (.k (.bool false))])
 (.rt))
 (.sk)))
 (.sq (.sq (rg [oo 33 (.fa 5 (.t 2)),
 oo 34 (.ld none (.t 33)),
 oo 35 (.fa 5 (.t 3)),
 oo 36 (.ld none (.t 35)),
 oo 37 (.ca .pure false (.f fid_laws_eqWireS) [.t 34, .t 36]),
 oo 38 (.nt (.t 37))])
 (.cd (.t 38) (.sq (rg [om 4 (.k (.bool false))])
 (.rt))
 (.sk)))
 (.sq (rg [om 4 (.k (.bool true))])
 (.rt))))))))) }
theorem k_laws_eqBigraph : chkF Go.Proofs.Tryz.prog fid_laws_eqBigraph c_laws_eqBigraph = true := by kernel_rfl

def c_laws_toBigraphS : F2 :=
  { nt := 23, res := [.t 2 [7]], body :=
   (.sq (rg [om 2 (.k (.slice none 0 0))])
 (.sq (rg [om 5 (.t 0),
 oo 6 (.ln (.t 5)),
 oo 7 (.ms 6 [.int .i64 0, .slice none 0 0, .slice none 0 0, .int .i64 0, .slice none 0 0, .slice none 0 0] (.t 6)),
 om 3 (.t 7)])
 (.sq (.sq (rg [om 4 (i6 0)])
 (.bl 0 (.lp [0, 3, 4] [224, 640, 641, 642, 643] (.sq (.sq (rg [om 8 (.t 4),
 om 9 (.t 0),
 oo 10 (.ln (.t 9)),
 oo 11 (.bi .lss 0 (.t 8) (.t 10))])
 (.cd (.t 11) (.sk)
 (.ex 0)))
 (.sq (.bl 1 (rg [om 14 (.t 3),
 om 15 (.t 4),
 om 16 (.t 0),
 om 17 (.t 4),
 oo 18 (.ia 6 (.t 16) (.t 17)),
 oo 19 (.ld (some 6) (.t 18)),
 oo 20 (.ca .pure true (.f fid_laws_toBigraph) [.t 19]),
 oo 21 (.ia 6 (.t 14) (.t 15)),
 on1 (.st 6 (.t 21) (.t 20))]))
 (rg [om 12 (.t 4),
 oo 13 (.bi .add 0 (.t 12) (i6 1)),
 om 4 (.t 13)]))))))
 (.sq (rg [om 22 (.t 3),
 om 2 (.t 22)])
 (.rt))))) }
theorem k_laws_toBigraphS : chkF Go.Proofs.Tryz.prog fid_laws_toBigraphS c_laws_toBigraphS = true := by kernel_rfl

def c_laws_szControl : F2 :=
  { nt := 13, res := [.t 4 [0]], body :=
   (.sq (rg [oo 2 (.bt (.t 0)),
 om 4 (i6 0)])
 (.sq (rg [om 5 (.t 1),
 oo 6 (.fa 0 (.t 2)),
 oo 7 (.ld none (.t 6)),
 oo 8 (.lg (.t 7)),
 oo 9 (.bi .sub 0 (.t 5) (.t 8)),
 om 1 (.t 9)])
 (.sq (.sq (rg [om 10 (.t 1),
 oo 11 (.bi .lss 0 (.t 10) (i6 0))])
 (.cd (.t 11) (.sq (rg [om 4 (i6 (-1))])
 (.rt))
 (.sk)))
 (.sq (rg [om 12 (.t 1),
 om 4 (.t 12)])
 (.rt))))) }
theorem k_laws_szControl : chkF Go.Proofs.Tryz.prog fid_laws_szControl c_laws_szControl = true := by kernel_rfl

def c_laws_toControl : F2 :=
  { nt := 14, res := [.c 2 (some 3) [0, 0, 0]], body :=
   (.sq (rg [oo 1 (.bt (.t 0)),
 oo 2 (.al [.string ⟨#[]⟩, .int .i64 0, .int .i64 0] [])])
 (.sq (rg [oo 3 (.al [.string ⟨#[]⟩, .int .i64 0, .int .i64 0] [])])
 (.sq (rg [oo 4 (.fa 0 (.t 1)),
 oo 5 (.ld none (.t 4)),
 oo 6 (.fa 0 (.t 3)),
 on1 (.st 1 (.t 6) (.t 5))])
 (.sq (rg [oo 7 (.fa 1 (.t 1)),
 oo 8 (.ld none (.t 7)),
 oo 9 (.fa 1 (.t 3)),
 on1 (.st 1 (.t 9) (.t 8))])
 (.sq (rg [oo 10 (.fa 2 (.t 1)),
 oo 11 (.ld none (.t 10)),
 oo 12 (.fa 2 (.t 3)),
 on1 (.st 1 (.t 12) (.t 11))])
 (.sq (rg [oo 13 (.ld (some 3) (.t 3)),
 on1 (.st 3 (.t 2) (.t 13))])
 (.rt))))))) }
theorem k_laws_toControl : chkF Go.Proofs.Tryz.prog fid_laws_toControl c_laws_toControl = true := by kernel_rfl

def c_laws_toNodeS : F2 :=
  { nt := 23, res := [.t 2 [4]], body :=
   (.sq (rg [om 2 (.k (.slice none 0 0))])
 (.sq (rg [om 5 (.t 0),
 oo 6 (.ln (.t 5)),
 oo 7 (.ms 3 [.int .i64 0, .int .i64 0, .slice none 0 0] (.t 6)),
 om 3 (.t 7)])
 (.sq (.sq (rg [om 4 (i6 0)])
 (.bl 0 (.lp [0, 3, 4] [224, 640] (.sq (.sq (rg [om 8 (.t 4),
 om 9 (.t 0),
 oo 10 (.ln (.t 9)),
 oo 11 (.bi .lss 0 (.t 8) (.t 10))])
 (.cd (.t 11) (.sk)
 (.ex 0)))
 (.sq (.bl 1 (rg [om 14 (.t 3),
 om 15 (.t 4),
 om 16 (.t 0),
 om 17 (.t 4),
 oo 18 (.ia 3 (.t 16) (.t 17)),
 oo 19 (.ld (some 3) (.t 18)),
 oo 20 (.ca .pure true (.f fid_laws_toNode) [.t 19]),
 oo 21 (.ia 3 (.t 14) (.t 15)),
 on1 (.st 3 (.t 21) (.t 20))]))
 (rg [om 12 (.t 4),
 oo 13 (.bi .add 0 (.t 12) (i6 1)),
 om 4 (.t 13)]))))))
 (.sq (rg [om 22 (.t 3),
 om 2 (.t 22)])
 (.rt))))) }
theorem k_laws_toNodeS : chkF Go.Proofs.Tryz.prog fid_laws_toNodeS c_laws_toNodeS = true := by kernel_rfl

def c_laws_toWireS : F2 :=
  { nt := 23, res := [.t 2 [3]], body :=
   (.sq (rg [om 2 (.k (.slice none 0 0))])
 (.sq (rg [om 5 (.t 0),
 oo 6 (.ln (.t 5)),
 oo 7 (.ms 2 [.string ⟨#[]⟩, .int .i64 0] (.t 6)),
 om 3 (.t 7)])
 (.sq (.sq (rg [om 4 (i6 0)])
 (.bl 0 (.lp [0, 3, 4] [224] (.sq (.sq (rg [om 8 (.t 4),
 om 9 (.t 0),
 oo 10 (.ln (.t 9)),
 oo 11 (.bi .lss 0 (.t 8) (.t 10))])
 (.cd (.t 11) (.sk)
 (.ex 0)))
 (.sq (.bl 1 (rg [om 14 (.t 3),
 om 15 (.t 4),
 om 16 (.t 0),
 om 17 (.t 4),
 oo 18 (.ia 2 (.t 16) (.t 17)),
 oo 19 (.ld (some 2) (.t 18)),
 oo 20 (.ca .pure true (.f fid_laws_toWire) [.t 19]),
 oo 21 (.ia 2 (.t 14) (.t 15)),
 on1 (.st 2 (.t 21) (.t 20))]))
 (rg [om 12 (.t 4),
 oo 13 (.bi .add 0 (.t 12) (i6 1)),
 om 4 (.t 13)]))))))
 (.sq (rg [om 22 (.t 3),
 om 2 (.t 22)])
 (.rt))))) }
theorem k_laws_toWireS : chkF Go.Proofs.Tryz.prog fid_laws_toWireS c_laws_toWireS = true := by kernel_rfl

def c_laws_eqControl : F2 :=
  { nt := 20, res := [.t 4 [0]], body :=
   (.sq (rg [oo 2 (.bt (.t 0)),
 oo 3 (.bt (.t 1)),
 om 4 (.k (.bool false))])
 (.sq (.sq (rg [oo 5 (.fa 0 (.t 2)),
 oo 6 (.ld none (.t 5)),
 oo 7 (.fa 0 (.t 3)),
 oo 8 (.ld none (.t 7)),
 oo 9 (.bi .neq 0 (.t 6) (.t 8))])
 (.cd (.t 9) (.sq (rg [om 4 (.k (.bool false))])
 (.rt))
 (.sk)))
 (.sq (.sq (rg [oo 10 (.fa 1 (.t 2)),
 oo 11 (.ld none (.t 10)),
 oo 12 (.fa 1 (.t 3)),
 oo 13 (.ld none (.t 12)),
 oo 14 (.bi .neq 0 (.t 11) (.t 13))])
 (.cd (.t 14) (.sq (rg [om 4 (.k (.bool false))])
 (.rt))
 (.sk)))
 (.sq (.sq (rg [oo 15 (.fa 2 (.t 2)),
 oo 16 (.ld none (.t 15)),
 oo 17 (.fa 2 (.t 3)),
 oo 18 (.ld none (.t 17)),
 oo 19 (.bi .neq 0 (.t 16) (.t 18))])
 (.cd (.t 19) (.sq (rg [om 4 (.k (.bool false))])
 (.rt))
 (.sk)))
 (.sq (rg [om 4 (.k (.bool true))])
 (.rt)))))) }
theorem k_laws_eqControl : chkF Go.Proofs.Tryz.prog fid_laws_eqControl c_laws_eqControl = true := by kernel_rfl

def c_laws_szNode : F2 :=
  { nt := 12, res := [.t 4 [0]], body :=
   (.sq (rg [oo 2 (.bt (.t 0)),
 om 4 (i6 0)])
 (.sq (rg [oo 5 (.fa 2 (.t 2)),
 oo 6 (.ld none (.t 5)),
 om 7 (.t 1),
 oo 8 (.ca .pure false (.f fid_laws_szIntS) [.t 6, .t 7]),
 om 1 (.t 8)])
 (.sq (.sq (rg [om 9 (.t 1),
 oo 10 (.bi .lss 0 (.t 9) (i6 0))])
 (.cd (.t 10) (.sq (rg [om 4 (i6 (-1))])
 (.rt))
 (.sk)))
 (.sq (rg [om 11 (.t 1),
 om 4 (.t 11)])
 (.rt))))) }
theorem k_laws_szNode : chkF Go.Proofs.Tryz.prog fid_laws_szNode c_laws_szNode = true := by kernel_rfl

def c_laws_szWire : F2 :=
  { nt := 13, res := [.t 4 [0]], body :=
   (.sq (rg [oo 2 (.bt (.t 0)),
 om 4 (i6 0)])
 (.sq (rg [om 5 (.t 1),
 oo 6 (.fa 0 (.t 2)),
 oo 7 (.ld none (.t 6)),
 oo 8 (.lg (.t 7)),
 oo 9 (.bi .sub 0 (.t 5) (.t 8)),
 om 1 (.t 9)])
 (.sq (.sq (rg [om 10 (.t 1),
 oo 11 (.bi .lss 0 (.t 10) (i6 0))])
 (.cd (.t 11) (.sq (rg [om 4 (i6 (-1))])
 (.rt))
 (.sk)))
 (.sq (rg [om 12 (.t 1),
 om 4 (.t 12)])
 (.rt))))) }
theorem k_laws_szWire : chkF Go.Proofs.Tryz.prog fid_laws_szWire c_laws_szWire = true := by kernel_rfl

def c_laws_toNode : F2 :=
  { nt := 15, res := [.c 2 (some 3) [0, 0, 2]], body :=
   (.sq (rg [oo 1 (.bt (.t 0)),
 oo 2 (.al [.int .i64 0, .int .i64 0, .slice none 0 0] [])])
 (.sq (rg [oo 3 (.al [.int .i64 0, .int .i64 0, .slice none 0 0] [])])
 (.sq (rg [oo 4 (.fa 0 (.t 1)),
 oo 5 (.ld none (.t 4)),
 oo 6 (.fa 0 (.t 3)),
 on1 (.st 1 (.t 6) (.t 5))])
 (.sq (rg [oo 7 (.fa 1 (.t 1)),
 oo 8 (.ld none (.t 7)),
 oo 9 (.fa 1 (.t 3)),
 on1 (.st 1 (.t 9) (.t 8))])
 (.sq (rg [oo 10 (.fa 2 (.t 1)),
 oo 11 (.ld none (.t 10)),
 oo 12 (.ca .pure true (.f fid_laws_toIntS) [.t 11]),
 oo 13 (.fa 2 (.t 3)),
 on1 (.st 1 (.t 13) (.t 12))])
 (.sq (rg [oo 14 (.ld (some 3) (.t 3)),
 on1 (.st 3 (.t 2) (.t 14))])
 (.rt))))))) }
theorem k_laws_toNode : chkF Go.Proofs.Tryz.prog fid_laws_toNode c_laws_toNode = true := by kernel_rfl

def c_laws_toWire : F2 :=
  { nt := 11, res := [.c 2 (some 2) [0, 0]], body :=
   (.sq (rg [oo 1 (.bt (.t 0)),
 oo 2 (.al [.string ⟨#[]⟩, .int .i64 0] [])])
 (.sq (rg [oo 3 (.al [.string ⟨#[]⟩, .int .i64 0] [])])
 (.sq (rg [oo 4 (.fa 0 (.t 1)),
 oo 5 (.ld none (.t 4)),
 oo 6 (.fa 0 (.t 3)),
 on1 (.st 1 (.t 6) (.t 5))])
 (.sq (rg [oo 7 (.fa 1 (.t 1)),
 oo 8 (.ld none (.t 7)),
 oo 9 (.fa 1 (.t 3)),
 on1 (.st 1 (.t 9) (.t 8))])
 (.sq (rg [oo 10 (.ld (some 2) (.t 3)),
 on1 (.st 2 (.t 2) (.t 10))])
 (.rt)))))) }
theorem k_laws_toWire : chkF Go.Proofs.Tryz.prog fid_laws_toWire c_laws_toWire = true := by kernel_rfl

def c_laws_eqNode : F2 :=
  { nt := 21, res := [.t 4 [0]], body :=
   (.sq (rg [oo 2 (.bt (.t 0)),
 oo 3 (.bt (.t 1)),
 om 4 (.k (.bool false))])
 (.sq (.sq (rg [oo 5 (.fa 0 (.t 2)),
 oo 6 (.ld none (.t 5)),
 oo 7 (.fa 0 (.t 3)),
 oo 8 (.ld none (.t 7)),
 oo 9 (.bi .neq 0 (.t 6) (.t 8))])
 (.cd (.t 9) (.sq (rg [om 4 (.k (.bool false))])
 (.rt))
 (.sk)))
 (.sq (.sq (rg [oo 10 (.fa 1 (.t 2)),
 oo 11 (.ld none (.t 10)),
 oo 12 (.fa 1 (.t 3)),
 oo 13 (.ld none (.t 12)),
 oo 14 (.bi .neq 0 (.t 11) (.t 13))])
 (.cd (.t 14) (.sq (rg [om 4 (.k (.bool false))])
 (.rt))
 (.sk)))
 (.sq (.sq (rg [oo 15 (.fa 2 (.t 2)),
 oo 16 (.ld none (.t 15)),
 oo 17 (.fa 2 (.t 3)),
 oo 18 (.ld none (.t 17)),
 oo 19 (.ca .pure false (.f fid_laws_eqIntS) [.t 16, .t 18]),
 oo 20 (.nt (.t 19))])
 (.cd (.t 20) (.sq (rg [om 4 (.k (.bool false))])
 (.rt))
 (.sk)))
 (.sq (rg [om 4 (.k (.bool true))])
 (.rt)))))) }
theorem k_laws_eqNode : chkF Go.Proofs.Tryz.prog fid_laws_eqNode c_laws_eqNode = true := by kernel_rfl

def c_laws_eqWire : F2 :=
  { nt := 15, res := [.t 4 [0]], body :=
   (.sq (rg [oo 2 (.bt (.t 0)),
 oo 3 (.bt (.t 1)),
 om 4 (.k (.bool false))])
 (.sq (.sq (rg [oo 5 (.fa 0 (.t 2)),
 oo 6 (.ld none (.t 5)),
 oo 7 (.fa 0 (.t 3)),
 oo 8 (.ld none (.t 7)),
 oo 9 (.bi .neq 0 (.t 6) (.t 8))])
 (.cd (.t 9) (.sq (rg [om 4 (.k (.bool false))])
 (.rt))
 (.sk)))
 (.sq (.sq (rg [oo 10 (.fa 1 (.t 2)),
 oo 11 (.ld none (.t 10)),
 oo 12 (.fa 1 (.t 3)),
 oo 13 (.ld none (.t 12)),
 oo 14 (.bi .neq 0 (.t 11) (.t 13))])
 (.cd (.t 14) (.sq (rg [om 4 (.k (.bool false))])
 (.rt))
 (.sk)))
 (.sq (rg [om 4 (.k (.bool true))])
 (.rt))))) }
theorem k_laws_eqWire : chkF Go.Proofs.Tryz.prog fid_laws_eqWire c_laws_eqWire = true := by kernel_rfl

end Go.Fd

namespace Go.Fd
theorem sset_ne {S : Sto} {id i : Oid} {ob : Ob} (h : i ≠ id) : sset S id ob i = S i := if_neg h
theorem mL_get {α : Type} {m : α → Int → α} {n : α → Nat} : ∀ {a : List α} {k : Int} {j : Nat} (h : j < a.length), (mL m n a k)[j]? = some (m a[j] (kJ n a k j))
  | [], _, _, h => by cases h
  | x :: r, k, 0, _ => by simp [mL, kJ, nL]
  | x :: r, k, j + 1, h => by
    simp only [mL, List.getElem?_cons_succ, List.getElem_cons_succ]
    rw [mL_get (by simpa using h)]
    simp only [kJ, List.take_succ_cons, nL]
    congr 2
    omega
theorem mL_row {α : Type} {c : α → List Tr} {m : α → Int → α} {n : α → Nat} {a : List α} {k : Int} {j : Nat} (h : j < a.length) : ((mL m n a k).map c)[j]? = some (c (m a[j] (kJ n a k j))) := by
  rw [List.getElem?_map, mL_get h]; rfl
theorem cut_mL {α : Type} {c : α → List Tr} {m : α → Int → α} {n : α → Nat} {a : List α} {k : Int} : cut ((mL m n a k).map c) 0 a.length = (mL m n a k).map c := by
  simp only [cut, List.drop_zero]
  exact List.take_of_length_le (by rw [List.length_map, mL_length]; exact Nat.le_refl _)
theorem cut_map {α : Type} {c : α → List Tr} {a : List α} : cut (a.map c) 0 a.length = a.map c := by
  simp only [cut, List.drop_zero]
  exact List.take_of_length_le (by rw [List.length_map]; exact Nat.le_refl _)
end Go.Fd

namespace Go.Fd
set_option maxRecDepth 20000
def nBigraph (x : TBigraph) : Nat := nL nNode x.nodes + nL nInt x.sites + nL nStr x.outer + nL nWire x.inner
theorem sem_markBigraph (x : TBigraph) (k : Int) (lvl : Nat) (S : Sto) (i1 i2 i3 i4 : Oid) (k1 h1 v1 k2 h2 v2 k3 h3 v3 k4 h4 v4 : Nat) (c1 c2 c3 c4 : Option Nat) (l1 : i1.1 < lvl) (l2 : i2.1 < lvl) (l3 : i3.1 < lvl) (l4 : i4.1 < lvl) (n2_1 : i2 ≠ i1) (n3_1 : i3 ≠ i1) (n3_2 : i3 ≠ i2) (n4_1 : i4 ≠ i1) (n4_2 : i4 ≠ i2) (n4_3 : i4 ≠ i3) (s1 : S i1 = some (.ar k1 (x.nodes.map cNode) true h1 v1)) (s2 : S i2 = some (.ar k2 (rI x.sites) true h2 v2)) (s3 : S i3 = some (.ar k3 (rS x.outer) true h3 v3)) (s4 : S i4 = some (.ar k4 (x.inner.map cWire) true h4 v4)) (h0 : 0 ≤ k) (hk : k + nBigraph x ≤ 4611686018427387904) (hb : bdBigraph 4294967296 x) :
    Sem Go.Proofs.Tryz.prog fid_laws_markBigraph lvl [.ag [iI x.roots, .hd i1 [] 0 x.nodes.length c1 h1, .hd i2 [] 0 x.sites.length c2 h2, iI x.edges, .hd i3 [] 0 x.outer.length c3 h3, .hd i4 [] 0 x.inner.length c4 h4], iI k] S (iI (k + nBigraph x)) (sset (sset (sset (sset S i1 (.ar k1 (((mL mNode nNode x.nodes (k))).map cNode) true h1 v1)) i2 (.ar k2 (rI (mL mInt nInt x.sites (k + (nL nNode x.nodes : Nat)))) true h2 v2)) i3 (.ar k3 (rS (mL mStr nStr x.outer (k + (nL nNode x.nodes : Nat) + (nL nInt x.sites : Nat)))) true h3 v3)) i4 (.ar k4 (((mL mWire nWire x.inner (k + (nL nNode x.nodes : Nat) + (nL nInt x.sites : Nat) + (nL nStr x.outer : Nat)))).map cWire) true h4 v4)) := by
  obtain ⟨b0, b1, b2, b3, b4, b5, b6⟩ := hb
  have e1 : i1.1 ≠ lvl := by omega
  have e2 : i2.1 ≠ lvl := by omega
  have e3 : i3.1 ≠ lvl := by omega
  have e4 : i4.1 ≠ lvl := by omega
  simp only [nBigraph] at hk
  refine sem_of_chk k_laws_markBigraph trivial ?_
  simp only [c_laws_markBigraph, r_okmo e1, r_okmo e2, r_okmo e3, r_okmo e4, EVA, ↓reduceIte, Nat.reduceEqDiff, Nat.reduceMul, reduceCtorEq, Nat.reduceAdd, Nat.reduceSub, Nat.reduceLeDiff, Nat.reduceLT, Int.reduceToNat, Int.reduceLE, Int.reduceLT, mens, men]
  simp only [arg1]
  refine kcy_mark0 mark_NodeS l1 s1 (by omega) (by omega) b0 b1 ?_
  simp only [r_okmo e1, r_okmo e2, r_okmo e3, r_okmo e4, EVA, ↓reduceIte, Nat.reduceEqDiff, Nat.reduceMul, reduceCtorEq, Nat.reduceAdd, Nat.reduceSub, Nat.reduceLeDiff, Nat.reduceLT, Int.reduceToNat, Int.reduceLE, Int.reduceLT, mens, men]
  simp only [arg1]
  refine kcy_mark0 mark_IntS l2 (by rw [sset_ne n2_1]; exact s2) (by omega) (by omega) b2 (fun _ _ => trivial) ?_
  simp only [r_okmo e1, r_okmo e2, r_okmo e3, r_okmo e4, EVA, ↓reduceIte, Nat.reduceEqDiff, Nat.reduceMul, reduceCtorEq, Nat.reduceAdd, Nat.reduceSub, Nat.reduceLeDiff, Nat.reduceLT, Int.reduceToNat, Int.reduceLE, Int.reduceLT, mens, men]
  simp only [arg1]
  refine kcy_mark0 mark_StringS l3 (by rw [sset_ne n3_2, sset_ne n3_1]; exact s3) (by omega) (by omega) b3 b4 ?_
  simp only [r_okmo e1, r_okmo e2, r_okmo e3, r_okmo e4, EVA, ↓reduceIte, Nat.reduceEqDiff, Nat.reduceMul, reduceCtorEq, Nat.reduceAdd, Nat.reduceSub, Nat.reduceLeDiff, Nat.reduceLT, Int.reduceToNat, Int.reduceLE, Int.reduceLT, mens, men]
  simp only [arg1]
  refine kcy_mark0 mark_WireS l4 (by rw [sset_ne n4_3, sset_ne n4_2, sset_ne n4_1]; exact s4) (by omega) (by omega) b5 b6 ?_
  simp only [r_okmo e1, r_okmo e2, r_okmo e3, r_okmo e4, EVA, ↓reduceIte, Nat.reduceEqDiff, Nat.reduceMul, reduceCtorEq, Nat.reduceAdd, Nat.reduceSub, Nat.reduceLeDiff, Nat.reduceLT, Int.reduceToNat, Int.reduceLE, Int.reduceLT, mens, men]
  simp only [nBigraph, Int.natCast_add, ← Int.add_assoc]
  try exact ⟨rfl, rfl⟩
theorem kcy_markBigraph {x : TBigraph} {k : Int} {lvl a1 a2 a3 a4 : Nat} {out : Sto} {k1 h1 v1 k2 h2 v2 k3 h3 v3 k4 h4 v4 : Nat} {c1 c2 c3 c4 : Option Nat} {env : List (Nat × IV)} {loc : List (Nat × Ob)} {d : Option Nat} {K : St → Prop} (n2_1 : a2 ≠ a1) (n3_1 : a3 ≠ a1) (n3_2 : a3 ≠ a2) (n4_1 : a4 ≠ a1) (n4_2 : a4 ≠ a2) (n4_3 : a4 ≠ a3) (s1 : lkO a1 loc = some (.ar k1 (x.nodes.map cNode) true h1 v1)) (s2 : lkO a2 loc = some (.ar k2 (rI x.sites) true h2 v2)) (s3 : lkO a3 loc = some (.ar k3 (rS x.outer) true h3 v3)) (s4 : lkO a4 loc = some (.ar k4 (x.inner.map cWire) true h4 v4)) (h0 : 0 ≤ k) (hk : k + nBigraph x ≤ 4611686018427387904) (hb : bdBigraph 4294967296 x)
    (hK : K ⟨lvl, ptd d (iI (k + nBigraph x)) env, (ptO a4 (.ar k4 (((mL mWire nWire x.inner (k + (nL nNode x.nodes : Nat) + (nL nInt x.sites : Nat) + (nL nStr x.outer : Nat)))).map cWire) true h4 v4) (ptO a3 (.ar k3 (rS (mL mStr nStr x.outer (k + (nL nNode x.nodes : Nat) + (nL nInt x.sites : Nat)))) true h3 v3) (ptO a2 (.ar k2 (rI (mL mInt nInt x.sites (k + (nL nNode x.nodes : Nat)))) true h2 v2) (ptO a1 (.ar k1 (((mL mNode nNode x.nodes (k))).map cNode) true h1 v1) loc)))), out⟩) :
    kcy (Sem Go.Proofs.Tryz.prog) fid_laws_markBigraph true lvl env loc out d K [.ag [iI x.roots, .hd (lvl, a1) [] 0 x.nodes.length c1 h1, .hd (lvl, a2) [] 0 x.sites.length c2 h2, iI x.edges, .hd (lvl, a3) [] 0 x.outer.length c3 h3, .hd (lvl, a4) [] 0 x.inner.length c4 h4], iI k] := by
  refine kcy_intro (r := iI (k + nBigraph x)) (ptO a4 (.ar k4 (((mL mWire nWire x.inner (k + (nL nNode x.nodes : Nat) + (nL nInt x.sites : Nat) + (nL nStr x.outer : Nat)))).map cWire) true h4 v4) (ptO a3 (.ar k3 (rS (mL mStr nStr x.outer (k + (nL nNode x.nodes : Nat) + (nL nInt x.sites : Nat)))) true h3 v3) (ptO a2 (.ar k2 (rI (mL mInt nInt x.sites (k + (nL nNode x.nodes : Nat)))) true h2 v2) (ptO a1 (.ar k1 (((mL mNode nNode x.nodes (k))).map cNode) true h1 v1) loc)))) out (fun _ _ => rfl) ?_ ⟨trivial, hK⟩
  rw [packS_ptO, packS_ptO, packS_ptO, packS_ptO]
  exact sem_markBigraph x k (lvl + 1) _ (lvl, a1) (lvl, a2) (lvl, a3) (lvl, a4) k1 h1 v1 k2 h2 v2 k3 h3 v3 k4 h4 v4 c1 c2 c3 c4 (Nat.lt_succ_self _) (Nat.lt_succ_self _) (Nat.lt_succ_self _) (Nat.lt_succ_self _) (fun e => n2_1 (congrArg Prod.snd e)) (fun e => n3_1 (congrArg Prod.snd e)) (fun e => n3_2 (congrArg Prod.snd e)) (fun e => n4_1 (congrArg Prod.snd e)) (fun e => n4_2 (congrArg Prod.snd e)) (fun e => n4_3 (congrArg Prod.snd e)) (by rw [r_pack]; exact s1) (by rw [r_pack]; exact s2) (by rw [r_pack]; exact s3) (by rw [r_pack]; exact s4) h0 hk hb
def mstBigraph (x : TBigraph) (k : Int) : TBigraph := { x with nodes := mL mNode nNode x.nodes (k), sites := mL mInt nInt x.sites (k + (nL nNode x.nodes : Nat)), outer := mL mStr nStr x.outer (k + (nL nNode x.nodes : Nat) + (nL nInt x.sites : Nat)), inner := mL mWire nWire x.inner (k + (nL nNode x.nodes : Nat) + (nL nInt x.sites : Nat) + (nL nStr x.outer : Nat)) }
theorem held_IntS (a : List Int) (k : Int) (hl : a.length ≤ 4294967296) (h0 : 0 ≤ k) (hk : k + nL nInt a ≤ 4611686018427387904) (lvl : Nat) (S : Sto) : Sem Go.Proofs.Tryz.prog fid_laws_heldIntS lvl [.tr (.sl (rI (mL mInt nInt a k))), iI k] S (iI (k + nL nInt a)) S := by
  refine sem_of_chk k_laws_heldIntS trivial ?_
  simp only [c_laws_heldIntS, EVA, ↓reduceIte, Nat.reduceEqDiff, Nat.reduceMul, reduceCtorEq, Nat.reduceAdd, Nat.reduceSub, Nat.reduceLeDiff, Nat.reduceLT, Int.reduceToNat, Int.reduceLE, Int.reduceLT, mens, men]
  refine wp_count (α := Unit) a.length (fun j _ => ⟨lvl, [(0, .tr (.sl (rI (mL mInt nInt a k)))), (1, iI (kJ nInt a k j)), (5, iI j)], [], S⟩) (fun _ _ => True) () ⟨by simp only [EVA, ↓reduceIte, Nat.reduceEqDiff, Nat.reduceMul, reduceCtorEq, Nat.reduceAdd, Nat.reduceSub, Nat.reduceLeDiff, Nat.reduceLT, Int.reduceToNat, Int.reduceLE, Int.reduceLT, mens, men], by (simp only [kJ_zero, EVA, ↓reduceIte, Nat.reduceEqDiff, Nat.reduceMul, reduceCtorEq, Nat.reduceAdd, Nat.reduceSub, Nat.reduceLeDiff, Nat.reduceLT, Int.reduceToNat, Int.reduceLE, Int.reduceLT, mens, men]) <;> rfl⟩ trivial ?_
  intro j _ hj _
  simp only [List.length_map, mL_length, EVA, ↓reduceIte, Nat.reduceEqDiff, Nat.reduceMul, reduceCtorEq, Nat.reduceAdd, Nat.reduceSub, Nat.reduceLeDiff, Nat.reduceLT, Int.reduceToNat, Int.reduceLE, Int.reduceLT, mens, men]
  refine ite_of (fun hlt => ?_) (fun hge => ?_)
  · have hja : j < a.length := by omega
    have ga := mL_row (c := (fun n : Int => [tv n])) (m := mInt) (n := nInt) (k := k) hja
    have hge2 := kJ_le nInt (a := a) (k := k) (j := j + 1)
    rw [kJ_succ nInt hja] at hge2
    have hge3 := kJ_ge nInt (a := a) (k := k) (j := j)
    try simp only [nInt] at hge2
    simp only [ga, mInt, mStr, Nat.zero_add, hja, ne_eq, not_true_eq_false, EVA, ↓reduceIte, Nat.reduceEqDiff, Nat.reduceMul, reduceCtorEq, Nat.reduceAdd, Nat.reduceSub, Nat.reduceLeDiff, Nat.reduceLT, Int.reduceToNat, Int.reduceLE, Int.reduceLT, mens, men]
    refine ⟨by rw [fits_i64]; omega, ⟨by rw [fits_i64]; omega, cntJ_intro () hja ?_ trivial⟩⟩
    rw [kJ_succ nInt hja]
    simp only [nInt, Int.natCast_add, Int.natCast_one, Int.add_assoc]
    try rfl
  · have : j = a.length := by omega
    subst this
    rw [kJ_all]
theorem held_NodeS (a : List TNode) (k : Int) (hl : a.length ≤ 4294967296) (hB : ∀ x ∈ a, (bdNode 4294967296) x) (h0 : 0 ≤ k) (hk : k + nL nNode a ≤ 4611686018427387904) (lvl : Nat) (S : Sto) : Sem Go.Proofs.Tryz.prog fid_laws_heldNodeS lvl [.tr (.sl (((mL mNode nNode a k)).map cNode)), iI k] S (iI (k + nL nNode a)) S := by
  refine sem_of_chk k_laws_heldNodeS trivial ?_
  simp only [c_laws_heldNodeS, EVA, ↓reduceIte, Nat.reduceEqDiff, Nat.reduceMul, reduceCtorEq, Nat.reduceAdd, Nat.reduceSub, Nat.reduceLeDiff, Nat.reduceLT, Int.reduceToNat, Int.reduceLE, Int.reduceLT, mens, men]
  refine wp_count (α := Unit) a.length (fun j _ => ⟨lvl, [(0, .tr (.sl (((mL mNode nNode a k)).map cNode))), (1, iI (kJ nNode a k j)), (5, iI j)], [], S⟩) (fun _ _ => True) () ⟨by simp only [EVA, ↓reduceIte, Nat.reduceEqDiff, Nat.reduceMul, reduceCtorEq, Nat.reduceAdd, Nat.reduceSub, Nat.reduceLeDiff, Nat.reduceLT, Int.reduceToNat, Int.reduceLE, Int.reduceLT, mens, men], by (simp only [kJ_zero, EVA, ↓reduceIte, Nat.reduceEqDiff, Nat.reduceMul, reduceCtorEq, Nat.reduceAdd, Nat.reduceSub, Nat.reduceLeDiff, Nat.reduceLT, Int.reduceToNat, Int.reduceLE, Int.reduceLT, mens, men]) <;> rfl⟩ trivial ?_
  intro j _ hj _
  simp only [List.length_map, mL_length, EVA, ↓reduceIte, Nat.reduceEqDiff, Nat.reduceMul, reduceCtorEq, Nat.reduceAdd, Nat.reduceSub, Nat.reduceLeDiff, Nat.reduceLT, Int.reduceToNat, Int.reduceLE, Int.reduceLT, mens, men]
  refine ite_of (fun hlt => ?_) (fun hge => ?_)
  · have hja : j < a.length := by omega
    have ga := mL_row (c := cNode) (m := mNode) (n := nNode) (k := k) hja
    have hge2 := kJ_le nNode (a := a) (k := k) (j := j + 1)
    rw [kJ_succ nNode hja] at hge2
    have hge3 := kJ_ge nNode (a := a) (k := k) (j := j)
    try simp only [nNode] at hge2
    have hb := hB _ (List.getElem_mem hja)
    simp only [ga, cNode, mNode, mInt, mStr, Nat.zero_add, hja, ne_eq, not_true_eq_false, EVA, ↓reduceIte, Nat.reduceEqDiff, Nat.reduceMul, reduceCtorEq, Nat.reduceAdd, Nat.reduceSub, Nat.reduceLeDiff, Nat.reduceLT, Int.reduceToNat, Int.reduceLE, Int.reduceLT, mens, men]
    refine ⟨by rw [fits_i64]; omega, ⟨by rw [fits_i64]; omega, ?_⟩⟩
    refine kca_intro (held_IntS (a[j]).links (kJ nNode a k j + 1 + 1) hb (by omega) (by omega)) ?_
    have hz2 : ¬ (kJ nNode a k j + 1 + 1 + (nL nInt (a[j]).links : Nat) < 0) := by omega
    simp only [ga, cNode, mNode, mInt, mStr, Nat.zero_add, hja, ne_eq, not_true_eq_false, hz2, EVA, ↓reduceIte, Nat.reduceEqDiff, Nat.reduceMul, reduceCtorEq, Nat.reduceAdd, Nat.reduceSub, Nat.reduceLeDiff, Nat.reduceLT, Int.reduceToNat, Int.reduceLE, Int.reduceLT, mens, men]
    refine ⟨by rw [fits_i64]; omega, cntJ_intro () hja ?_ trivial⟩
    rw [kJ_succ nNode hja]
    simp only [nNode, Int.natCast_add, Int.natCast_one, Int.add_assoc]
    try rfl
  · have : j = a.length := by omega
    subst this
    rw [kJ_all]
theorem held_StringS (a : List ByteArray) (k : Int) (hl : a.length ≤ 4294967296) (hB : ∀ x ∈ a, (fun x => x.size ≤ 4294967296) x) (h0 : 0 ≤ k) (hk : k + nL nStr a ≤ 4611686018427387904) (lvl : Nat) (S : Sto) : Sem Go.Proofs.Tryz.prog fid_laws_heldStringS lvl [.tr (.sl (rS (mL mStr nStr a k))), iI k] S (iI (k + nL nStr a)) S := by
  refine sem_of_chk k_laws_heldStringS trivial ?_
  simp only [c_laws_heldStringS, EVA, ↓reduceIte, Nat.reduceEqDiff, Nat.reduceMul, reduceCtorEq, Nat.reduceAdd, Nat.reduceSub, Nat.reduceLeDiff, Nat.reduceLT, Int.reduceToNat, Int.reduceLE, Int.reduceLT, mens, men]
  refine wp_count (α := Unit) a.length (fun j _ => ⟨lvl, [(0, .tr (.sl (rS (mL mStr nStr a k)))), (1, iI (kJ nStr a k j)), (5, iI j)], [], S⟩) (fun _ _ => True) () ⟨by simp only [EVA, ↓reduceIte, Nat.reduceEqDiff, Nat.reduceMul, reduceCtorEq, Nat.reduceAdd, Nat.reduceSub, Nat.reduceLeDiff, Nat.reduceLT, Int.reduceToNat, Int.reduceLE, Int.reduceLT, mens, men], by (simp only [kJ_zero, EVA, ↓reduceIte, Nat.reduceEqDiff, Nat.reduceMul, reduceCtorEq, Nat.reduceAdd, Nat.reduceSub, Nat.reduceLeDiff, Nat.reduceLT, Int.reduceToNat, Int.reduceLE, Int.reduceLT, mens, men]) <;> rfl⟩ trivial ?_
  intro j _ hj _
  simp only [List.length_map, mL_length, EVA, ↓reduceIte, Nat.reduceEqDiff, Nat.reduceMul, reduceCtorEq, Nat.reduceAdd, Nat.reduceSub, Nat.reduceLeDiff, Nat.reduceLT, Int.reduceToNat, Int.reduceLE, Int.reduceLT, mens, men]
  refine ite_of (fun hlt => ?_) (fun hge => ?_)
  · have hja : j < a.length := by omega
    have ga := mL_row (c := (fun n : ByteArray => [ts n])) (m := mStr) (n := nStr) (k := k) hja
    have hge2 := kJ_le nStr (a := a) (k := k) (j := j + 1)
    rw [kJ_succ nStr hja] at hge2
    have hge3 := kJ_ge nStr (a := a) (k := k) (j := j)
    try simp only [nStr] at hge2
    have hb := hB _ (List.getElem_mem hja)
    simp only [ga, mStr, mInt, Nat.zero_add, hja, ne_eq, not_true_eq_false, EVA, ↓reduceIte, Nat.reduceEqDiff, Nat.reduceMul, reduceCtorEq, Nat.reduceAdd, Nat.reduceSub, Nat.reduceLeDiff, Nat.reduceLT, Int.reduceToNat, Int.reduceLE, Int.reduceLT, mens, men]
    refine kca_intro (sem_markText (kJ nStr a k j) (by omega)) ?_
    simp only [ga, mStr, mInt, Nat.zero_add, hja, ne_eq, not_true_eq_false, EVA, ↓reduceIte, Nat.reduceEqDiff, Nat.reduceMul, reduceCtorEq, Nat.reduceAdd, Nat.reduceSub, Nat.reduceLeDiff, Nat.reduceLT, Int.reduceToNat, Int.reduceLE, Int.reduceLT, mens, men]
    refine ⟨by rw [fits_i64]; omega, ⟨by rw [fits_i64]; omega, cntJ_intro () hja ?_ trivial⟩⟩
    rw [kJ_succ nStr hja]
    simp only [nStr, Int.natCast_add, Int.natCast_one, Int.add_assoc]
    try rfl
  · have : j = a.length := by omega
    subst this
    rw [kJ_all]
theorem held_WireS (a : List TWire) (k : Int) (hl : a.length ≤ 4294967296) (hB : ∀ x ∈ a, (bdWire 4294967296) x) (h0 : 0 ≤ k) (hk : k + nL nWire a ≤ 4611686018427387904) (lvl : Nat) (S : Sto) : Sem Go.Proofs.Tryz.prog fid_laws_heldWireS lvl [.tr (.sl (((mL mWire nWire a k)).map cWire)), iI k] S (iI (k + nL nWire a)) S := by
  refine sem_of_chk k_laws_heldWireS trivial ?_
  simp only [c_laws_heldWireS, EVA, ↓reduceIte, Nat.reduceEqDiff, Nat.reduceMul, reduceCtorEq, Nat.reduceAdd, Nat.reduceSub, Nat.reduceLeDiff, Nat.reduceLT, Int.reduceToNat, Int.reduceLE, Int.reduceLT, mens, men]
  refine wp_count (α := Unit) a.length (fun j _ => ⟨lvl, [(0, .tr (.sl (((mL mWire nWire a k)).map cWire))), (1, iI (kJ nWire a k j)), (5, iI j)], [], S⟩) (fun _ _ => True) () ⟨by simp only [EVA, ↓reduceIte, Nat.reduceEqDiff, Nat.reduceMul, reduceCtorEq, Nat.reduceAdd, Nat.reduceSub, Nat.reduceLeDiff, Nat.reduceLT, Int.reduceToNat, Int.reduceLE, Int.reduceLT, mens, men], by (simp only [kJ_zero, EVA, ↓reduceIte, Nat.reduceEqDiff, Nat.reduceMul, reduceCtorEq, Nat.reduceAdd, Nat.reduceSub, Nat.reduceLeDiff, Nat.reduceLT, Int.reduceToNat, Int.reduceLE, Int.reduceLT, mens, men]) <;> rfl⟩ trivial ?_
  intro j _ hj _
  simp only [List.length_map, mL_length, EVA, ↓reduceIte, Nat.reduceEqDiff, Nat.reduceMul, reduceCtorEq, Nat.reduceAdd, Nat.reduceSub, Nat.reduceLeDiff, Nat.reduceLT, Int.reduceToNat, Int.reduceLE, Int.reduceLT, mens, men]
  refine ite_of (fun hlt => ?_) (fun hge => ?_)
  · have hja : j < a.length := by omega
    have ga := mL_row (c := cWire) (m := mWire) (n := nWire) (k := k) hja
    have hge2 := kJ_le nWire (a := a) (k := k) (j := j + 1)
    rw [kJ_succ nWire hja] at hge2
    have hge3 := kJ_ge nWire (a := a) (k := k) (j := j)
    try simp only [nWire] at hge2
    have hb := hB _ (List.getElem_mem hja)
    simp only [ga, cWire, mWire, mInt, mStr, Nat.zero_add, hja, ne_eq, not_true_eq_false, EVA, ↓reduceIte, Nat.reduceEqDiff, Nat.reduceMul, reduceCtorEq, Nat.reduceAdd, Nat.reduceSub, Nat.reduceLeDiff, Nat.reduceLT, Int.reduceToNat, Int.reduceLE, Int.reduceLT, mens, men]
    refine kca_intro (sem_markText (kJ nWire a k j) (by omega)) ?_
    simp only [ga, cWire, mWire, mInt, mStr, Nat.zero_add, hja, ne_eq, not_true_eq_false, EVA, ↓reduceIte, Nat.reduceEqDiff, Nat.reduceMul, reduceCtorEq, Nat.reduceAdd, Nat.reduceSub, Nat.reduceLeDiff, Nat.reduceLT, Int.reduceToNat, Int.reduceLE, Int.reduceLT, mens, men]
    refine ⟨by rw [fits_i64]; omega, ⟨by rw [fits_i64]; omega, ⟨by rw [fits_i64]; omega, cntJ_intro () hja ?_ trivial⟩⟩⟩
    rw [kJ_succ nWire hja]
    simp only [nWire, Int.natCast_add, Int.natCast_one, Int.add_assoc]
    try rfl
  · have : j = a.length := by omega
    subst this
    rw [kJ_all]
theorem held_Bigraph (x : TBigraph) (k : Int) (hb : bdBigraph 4294967296 x) (h0 : 0 ≤ k) (hk : k + nBigraph x ≤ 4611686018427387904) (lvl : Nat) (S : Sto) : Sem Go.Proofs.Tryz.prog fid_laws_heldBigraph lvl [.ag ((cBigraph (mstBigraph x k)).map .tr), iI k] S (iI (k + nBigraph x)) S := by
  obtain ⟨b0, b1, b2, b3, b4, b5, b6⟩ := hb
  simp only [nBigraph] at hk
  refine sem_of_chk k_laws_heldBigraph trivial ?_
  simp only [c_laws_heldBigraph, cBigraph, mstBigraph, EVA, ↓reduceIte, Nat.reduceEqDiff, Nat.reduceMul, reduceCtorEq, Nat.reduceAdd, Nat.reduceSub, Nat.reduceLeDiff, Nat.reduceLT, Int.reduceToNat, Int.reduceLE, Int.reduceLT, mens, men]
  refine kca_intro (held_NodeS x.nodes (k) b0 b1 (by omega) (by omega)) ?_
  have hz0 : ¬ (k + (nL nNode x.nodes : Nat) < 0) := by omega
  simp only [cBigraph, mstBigraph, hz0, EVA, ↓reduceIte, Nat.reduceEqDiff, Nat.reduceMul, reduceCtorEq, Nat.reduceAdd, Nat.reduceSub, Nat.reduceLeDiff, Nat.reduceLT, Int.reduceToNat, Int.reduceLE, Int.reduceLT, mens, men]
  refine kca_intro (held_IntS x.sites (k + (nL nNode x.nodes : Nat)) b2 (by omega) (by omega)) ?_
  have hz1 : ¬ (k + (nL nNode x.nodes : Nat) + (nL nInt x.sites : Nat) < 0) := by omega
  simp only [cBigraph, mstBigraph, hz1, EVA, ↓reduceIte, Nat.reduceEqDiff, Nat.reduceMul, reduceCtorEq, Nat.reduceAdd, Nat.reduceSub, Nat.reduceLeDiff, Nat.reduceLT, Int.reduceToNat, Int.reduceLE, Int.reduceLT, mens, men]
  refine kca_intro (held_StringS x.outer (k + (nL nNode x.nodes : Nat) + (nL nInt x.sites : Nat)) b3 b4 (by omega) (by omega)) ?_
  have hz2 : ¬ (k + (nL nNode x.nodes : Nat) + (nL nInt x.sites : Nat) + (nL nStr x.outer : Nat) < 0) := by omega
  simp only [cBigraph, mstBigraph, hz2, EVA, ↓reduceIte, Nat.reduceEqDiff, Nat.reduceMul, reduceCtorEq, Nat.reduceAdd, Nat.reduceSub, Nat.reduceLeDiff, Nat.reduceLT, Int.reduceToNat, Int.reduceLE, Int.reduceLT, mens, men]
  refine kca_intro (held_WireS x.inner (k + (nL nNode x.nodes : Nat) + (nL nInt x.sites : Nat) + (nL nStr x.outer : Nat)) b5 b6 (by omega) (by omega)) ?_
  have hz3 : ¬ (k + (nL nNode x.nodes : Nat) + (nL nInt x.sites : Nat) + (nL nStr x.outer : Nat) + (nL nWire x.inner : Nat) < 0) := by omega
  simp only [cBigraph, mstBigraph, hz3, EVA, ↓reduceIte, Nat.reduceEqDiff, Nat.reduceMul, reduceCtorEq, Nat.reduceAdd, Nat.reduceSub, Nat.reduceLeDiff, Nat.reduceLT, Int.reduceToNat, Int.reduceLE, Int.reduceLT, mens, men]
  simp only [nBigraph, Int.natCast_add, ← Int.add_assoc]
end Go.Fd

namespace Go.Fd
theorem nL_int : ∀ (l : List Int), nL nInt l = l.length
  | [] => rfl
  | x :: r => by simp only [nL, List.length_cons, nL_int r, nInt]; omega
theorem nL_le {α : Type} {n : α → Nat} {B : Nat} : ∀ (l : List α), (∀ x ∈ l, n x ≤ B) → nL n l ≤ l.length * B
  | [], _ => Nat.zero_le _
  | x :: r, h => by
    have h1 := h x (by simp)
    have h2 := nL_le r (fun y hy => h y (by simp [hy]))
    simp only [nL, List.length_cons, Nat.add_mul]
    omega
end Go.Fd

namespace Go.Fd
theorem zqNode (x : TNode) : Zq 256 (fun l => szNode x l) (nNode x) := Zq_imp (Zq_th (by omega) (by omega) (Zq_N nInt (fun _ => (by decide : 1 ≤ 256)) x.links) Zq_id) (by simp only [nNode]; omega)
theorem zqWire (x : TWire) : Zq 256 (fun l => szWire x l) (nWire x) := Zq_imp (Zq_th (by omega) (by omega) (Zq_str x.name.size) Zq_id) (by simp only [nWire]; omega)
theorem zqEBigraph (x : TBigraph) : Zq 256 (fun l => szBigraph x l) (nEBigraph x) := Zq_imp (Zq_th (by omega) (by omega) (Zq_L (n := nNode) (fun y => Zq_imp (zqNode y) (by omega)) x.nodes) (Zq_th (by omega) (by omega) (Zq_N nInt (fun _ => (by decide : 1 ≤ 256)) x.sites) (Zq_th (by omega) (by omega) (Zq_L (n := nStr) (fun y => Zq_str1 y.size) x.outer) (Zq_th (by omega) (by omega) (Zq_L (n := nWire) (fun y => Zq_imp (zqWire y) (by omega)) x.inner) Zq_id)))) (by simp only [nEBigraph]; omega)
theorem zqControl (x : TControl) : Zq 256 (fun l => szControl x l) (nControl x) := Zq_imp (Zq_th (by omega) (by omega) (Zq_str x.name.size) Zq_id) (by simp only [nControl]; omega)
end Go.Fd

namespace Go.Fd
set_option maxRecDepth 20000
theorem szN_le {n : Nat} {l : Int} (h : 0 ≤ l) : szN n l ≤ l := by unfold szN; split <;> omega
theorem szF_le {α : Type} {f : α → Int → Int} : ∀ (a : List α) (l : Int), (∀ x ∈ a, ∀ l : Int, 0 ≤ l → l ≤ 1048576 → f x l ≤ l) → 0 ≤ l → l ≤ 1048576 → szF f a l ≤ l
  | [], l, _, _, _ => Int.le_refl l
  | x :: r, l, hf, h0, h1 => by
    simp only [szF]
    have := hf x (by simp) l h0 h1
    split
    · omega
    · have h2 := szF_le r (f x l) (fun y hy => hf y (by simp [hy])) (by omega) (by omega)
      omega
theorem szL_le {α : Type} {f : α → Int → Int} (a : List α) {l : Int} (hf : ∀ x ∈ a, ∀ l : Int, 0 ≤ l → l ≤ 1048576 → f x l ≤ l) (h0 : 0 ≤ l) (h1 : l ≤ 1048576) : szL f a l ≤ l := by
  unfold szL
  split
  · omega
  · have := szF_le a (l - a.length) hf (by omega) (by omega)
    omega
theorem szTh_le {l m : Int} {g : Int → Int} (h0 : 0 ≤ l) (h : m ≤ l) (hg : 0 ≤ m → g m ≤ m) : szTh m g ≤ l := by
  unfold szTh
  split
  · omega
  · have := hg (by omega)
    omega
theorem g_szIntS : chkF Go.Proofs.Tryz.prog fid_laws_szIntS sz0 = true := by kernel_rfl
theorem sem_szIntS (a : List Int) (hl : a.length ≤ 9223372036854775807) (l : Int) (h0 : 0 ≤ l) (h1 : l ≤ 1048576) : szN a.length l ≤ l ∧ ∀ lvl S, Sem Go.Proofs.Tryz.prog fid_laws_szIntS lvl [.tr (.sl (rI a)), iI l] S (iI (szN a.length l)) S := by
  refine ⟨szN_le h0, fun lvl S => ?_⟩
  have := sem_sz0 g_szIntS (rI a) l (by simpa using hl) h0 h1 lvl S
  simpa using this
theorem sem_szNode (x : TNode) (hb : bdNode 9223372036854775807 x) (l : Int) (h0 : 0 ≤ l) (h1 : l ≤ 1048576) : szNode x l ≤ l ∧ ∀ lvl S, Sem Go.Proofs.Tryz.prog fid_laws_szNode lvl [.ag ((cNode x).map .tr), iI l] S (iI (szNode x l)) S := by
  have b0 : x.links.length ≤ 9223372036854775807 := hb
  refine ⟨?_, fun lvl S => ?_⟩
  · unfold szNode
    have q0 := sem_szIntS x.links b0 _ h0 h1
    refine szTh_le h0 q0.1 (fun p0 => ?_)
    have r0 : _ ≤ (1048576 : Int) := Int.le_trans q0.1 h1
    exact Int.le_refl _
  · refine sem_of_chk k_laws_szNode trivial ?_
    simp only [c_laws_szNode, cNode, List.map_cons, List.map_nil, EVA, ↓reduceIte, Nat.reduceEqDiff, Nat.reduceMul, reduceCtorEq, Nat.reduceAdd, Nat.reduceSub, Nat.reduceLeDiff, Nat.reduceLT, Int.reduceToNat, Int.reduceLE, Int.reduceLT, mens, men]
    unfold szNode
    have q0 := sem_szIntS x.links b0 l h0 h1
    refine kca_intro q0.2 ?_
    simp only [EVA, ↓reduceIte, Nat.reduceEqDiff, Nat.reduceMul, reduceCtorEq, Nat.reduceAdd, Nat.reduceSub, Nat.reduceLeDiff, Nat.reduceLT, Int.reduceToNat, Int.reduceLE, Int.reduceLT, mens, men]
    obtain ⟨l1, hl1⟩ : ∃ m : Int, m = (szN x.links.length l) := ⟨_, rfl⟩
    have u1 : l1 ≤ l := by rw [hl1]; exact q0.1
    rw [← hl1]
    split
    · rename_i hn; rw [szTh, if_pos hn]
    rename_i hn0
    rw [szTh, if_neg hn0]
theorem g_szNodeS : chkF Go.Proofs.Tryz.prog fid_laws_szNodeS (szSl 3 (some 3) fid_laws_szNode) = true := by kernel_rfl
theorem sem_szNodeS (a : List TNode) (hl : a.length ≤ 9223372036854775807) (hb : ∀ y ∈ a, bdNode 9223372036854775807 y) (l : Int) (h0 : 0 ≤ l) (h1 : l ≤ 1048576) : szL szNode a l ≤ l ∧ ∀ lvl S, Sem Go.Proofs.Tryz.prog fid_laws_szNodeS lvl [.tr (.sl (a.map cNode)), iI l] S (iI (szL szNode a l)) S :=
  ⟨szL_le a (fun x hx l h0 h1 => (sem_szNode x (hb x hx) l h0 h1).1) h0 h1, fun lvl S => sem_szSl g_szNodeS cNode szNode cNode_len a l hl h0 h1 (fun x hx l h0 h1 => sem_szNode x (hb x hx) l h0 h1) lvl S⟩
theorem sem_szWire (x : TWire) (hb : bdWire 9223372036854775807 x) (l : Int) (h0 : 0 ≤ l) (h1 : l ≤ 1048576) : szWire x l ≤ l ∧ ∀ lvl S, Sem Go.Proofs.Tryz.prog fid_laws_szWire lvl [.ag ((cWire x).map .tr), iI l] S (iI (szWire x l)) S := by
  have b0 : x.name.size ≤ 9223372036854775807 := hb
  refine ⟨?_, fun lvl S => ?_⟩
  · unfold szWire
    refine szTh_le h0 (m := l - x.name.size) (by omega) (fun p0 => ?_)
    have r0 : _ ≤ (1048576 : Int) := Int.le_trans (show l - x.name.size ≤ l by omega) h1
    exact Int.le_refl _
  · refine sem_of_chk k_laws_szWire trivial ?_
    simp only [c_laws_szWire, cWire, List.map_cons, List.map_nil, EVA, ↓reduceIte, Nat.reduceEqDiff, Nat.reduceMul, reduceCtorEq, Nat.reduceAdd, Nat.reduceSub, Nat.reduceLeDiff, Nat.reduceLT, Int.reduceToNat, Int.reduceLE, Int.reduceLT, mens, men]
    unfold szWire
    refine ⟨by rw [fits_i64]; omega, ?_⟩
    obtain ⟨l1, hl1⟩ : ∃ m : Int, m = l - x.name.size := ⟨_, rfl⟩
    have u1 : l1 ≤ l := by omega
    rw [← hl1]
    split
    · rename_i hn; rw [szTh, if_pos hn]
    rename_i hn0
    rw [szTh, if_neg hn0]
theorem g_szWireS : chkF Go.Proofs.Tryz.prog fid_laws_szWireS (szSl 2 (some 2) fid_laws_szWire) = true := by kernel_rfl
theorem sem_szWireS (a : List TWire) (hl : a.length ≤ 9223372036854775807) (hb : ∀ y ∈ a, bdWire 9223372036854775807 y) (l : Int) (h0 : 0 ≤ l) (h1 : l ≤ 1048576) : szL szWire a l ≤ l ∧ ∀ lvl S, Sem Go.Proofs.Tryz.prog fid_laws_szWireS lvl [.tr (.sl (a.map cWire)), iI l] S (iI (szL szWire a l)) S :=
  ⟨szL_le a (fun x hx l h0 h1 => (sem_szWire x (hb x hx) l h0 h1).1) h0 h1, fun lvl S => sem_szSl g_szWireS cWire szWire cWire_len a l hl h0 h1 (fun x hx l h0 h1 => sem_szWire x (hb x hx) l h0 h1) lvl S⟩
theorem g_szStringS : chkF Go.Proofs.Tryz.prog fid_laws_szStringS szSt = true := by kernel_rfl
theorem sem_szStringS (a : List ByteArray) (hl : a.length ≤ 9223372036854775807) (hb : ∀ y ∈ a, y.size ≤ 9223372036854775807) (l : Int) (h0 : 0 ≤ l) (h1 : l ≤ 1048576) : szL (fun x m => m - x.size) a l ≤ l ∧ ∀ lvl S, Sem Go.Proofs.Tryz.prog fid_laws_szStringS lvl [tS a, iI l] S (iI (szL (fun x m => m - x.size) a l)) S :=
  ⟨szL_le a (fun x _ l _ _ => by omega) h0 h1, fun lvl S => sem_szSt g_szStringS a l hl h0 h1 hb lvl S⟩
theorem sem_szBigraph (x : TBigraph) (hb : bdBigraph 9223372036854775807 x) (l : Int) (h0 : 0 ≤ l) (h1 : l ≤ 1048576) : szBigraph x l ≤ l ∧ ∀ lvl S, Sem Go.Proofs.Tryz.prog fid_laws_szBigraph lvl [.ag ((cBigraph x).map .tr), iI l] S (iI (szBigraph x l)) S := by
  obtain ⟨b0, b1, b2, b3, b4, b5, b6⟩ := hb
  refine ⟨?_, fun lvl S => ?_⟩
  · unfold szBigraph
    have q0 := sem_szNodeS x.nodes b0 b1 _ h0 h1
    refine szTh_le h0 q0.1 (fun p0 => ?_)
    have r0 : _ ≤ (1048576 : Int) := Int.le_trans q0.1 h1
    have q1 := sem_szIntS x.sites b2 _ p0 r0
    refine szTh_le p0 q1.1 (fun p1 => ?_)
    have r1 : _ ≤ (1048576 : Int) := Int.le_trans q1.1 r0
    have q2 := sem_szStringS x.outer b3 b4 _ p1 r1
    refine szTh_le p1 q2.1 (fun p2 => ?_)
    have r2 : _ ≤ (1048576 : Int) := Int.le_trans q2.1 r1
    have q3 := sem_szWireS x.inner b5 b6 _ p2 r2
    refine szTh_le p2 q3.1 (fun p3 => ?_)
    have r3 : _ ≤ (1048576 : Int) := Int.le_trans q3.1 r2
    exact Int.le_refl _
  · refine sem_of_chk k_laws_szBigraph trivial ?_
    simp only [c_laws_szBigraph, cBigraph, List.map_cons, List.map_nil, EVA, ↓reduceIte, Nat.reduceEqDiff, Nat.reduceMul, reduceCtorEq, Nat.reduceAdd, Nat.reduceSub, Nat.reduceLeDiff, Nat.reduceLT, Int.reduceToNat, Int.reduceLE, Int.reduceLT, mens, men]
    unfold szBigraph
    have q0 := sem_szNodeS x.nodes b0 b1 l h0 h1
    refine kca_intro q0.2 ?_
    simp only [EVA, ↓reduceIte, Nat.reduceEqDiff, Nat.reduceMul, reduceCtorEq, Nat.reduceAdd, Nat.reduceSub, Nat.reduceLeDiff, Nat.reduceLT, Int.reduceToNat, Int.reduceLE, Int.reduceLT, mens, men]
    obtain ⟨l1, hl1⟩ : ∃ m : Int, m = (szL szNode x.nodes l) := ⟨_, rfl⟩
    have u1 : l1 ≤ l := by rw [hl1]; exact q0.1
    rw [← hl1]
    split
    · rename_i hn; rw [szTh, if_pos hn]
    rename_i hn0
    rw [szTh, if_neg hn0]
    have q1 := sem_szIntS x.sites b2 l1 (show 0 ≤ l1 by omega) (show l1 ≤ 1048576 by omega)
    refine kca_intro q1.2 ?_
    simp only [EVA, ↓reduceIte, Nat.reduceEqDiff, Nat.reduceMul, reduceCtorEq, Nat.reduceAdd, Nat.reduceSub, Nat.reduceLeDiff, Nat.reduceLT, Int.reduceToNat, Int.reduceLE, Int.reduceLT, mens, men]
    obtain ⟨l2, hl2⟩ : ∃ m : Int, m = (szN x.sites.length l1) := ⟨_, rfl⟩
    have u2 : l2 ≤ l1 := by rw [hl2]; exact q1.1
    rw [← hl2]
    split
    · rename_i hn; rw [szTh, if_pos hn]
    rename_i hn1
    rw [szTh, if_neg hn1]
    have q2 := sem_szStringS x.outer b3 b4 l2 (show 0 ≤ l2 by omega) (show l2 ≤ 1048576 by omega)
    refine kca_intro q2.2 ?_
    simp only [EVA, ↓reduceIte, Nat.reduceEqDiff, Nat.reduceMul, reduceCtorEq, Nat.reduceAdd, Nat.reduceSub, Nat.reduceLeDiff, Nat.reduceLT, Int.reduceToNat, Int.reduceLE, Int.reduceLT, mens, men]
    obtain ⟨l3, hl3⟩ : ∃ m : Int, m = (szL (fun x m => m - x.size) x.outer l2) := ⟨_, rfl⟩
    have u3 : l3 ≤ l2 := by rw [hl3]; exact q2.1
    rw [← hl3]
    split
    · rename_i hn; rw [szTh, if_pos hn]
    rename_i hn2
    rw [szTh, if_neg hn2]
    have q3 := sem_szWireS x.inner b5 b6 l3 (show 0 ≤ l3 by omega) (show l3 ≤ 1048576 by omega)
    refine kca_intro q3.2 ?_
    simp only [EVA, ↓reduceIte, Nat.reduceEqDiff, Nat.reduceMul, reduceCtorEq, Nat.reduceAdd, Nat.reduceSub, Nat.reduceLeDiff, Nat.reduceLT, Int.reduceToNat, Int.reduceLE, Int.reduceLT, mens, men]
    obtain ⟨l4, hl4⟩ : ∃ m : Int, m = (szL szWire x.inner l3) := ⟨_, rfl⟩
    have u4 : l4 ≤ l3 := by rw [hl4]; exact q3.1
    rw [← hl4]
    split
    · rename_i hn; rw [szTh, if_pos hn]
    rename_i hn3
    rw [szTh, if_neg hn3]
theorem g_szBigraphS : chkF Go.Proofs.Tryz.prog fid_laws_szBigraphS (szSl 6 (some 6) fid_laws_szBigraph) = true := by kernel_rfl
theorem sem_szBigraphS (a : List TBigraph) (hl : a.length ≤ 9223372036854775807) (hb : ∀ y ∈ a, bdBigraph 9223372036854775807 y) (l : Int) (h0 : 0 ≤ l) (h1 : l ≤ 1048576) : szL szBigraph a l ≤ l ∧ ∀ lvl S, Sem Go.Proofs.Tryz.prog fid_laws_szBigraphS lvl [.tr (.sl (a.map cBigraph)), iI l] S (iI (szL szBigraph a l)) S :=
  ⟨szL_le a (fun x hx l h0 h1 => (sem_szBigraph x (hb x hx) l h0 h1).1) h0 h1, fun lvl S => sem_szSl g_szBigraphS cBigraph szBigraph cBigraph_len a l hl h0 h1 (fun x hx l h0 h1 => sem_szBigraph x (hb x hx) l h0 h1) lvl S⟩
theorem sem_szControl (x : TControl) (hb : bdControl 9223372036854775807 x) (l : Int) (h0 : 0 ≤ l) (h1 : l ≤ 1048576) : szControl x l ≤ l ∧ ∀ lvl S, Sem Go.Proofs.Tryz.prog fid_laws_szControl lvl [.ag ((cControl x).map .tr), iI l] S (iI (szControl x l)) S := by
  have b0 : x.name.size ≤ 9223372036854775807 := hb
  refine ⟨?_, fun lvl S => ?_⟩
  · unfold szControl
    refine szTh_le h0 (m := l - x.name.size) (by omega) (fun p0 => ?_)
    have r0 : _ ≤ (1048576 : Int) := Int.le_trans (show l - x.name.size ≤ l by omega) h1
    exact Int.le_refl _
  · refine sem_of_chk k_laws_szControl trivial ?_
    simp only [c_laws_szControl, cControl, List.map_cons, List.map_nil, EVA, ↓reduceIte, Nat.reduceEqDiff, Nat.reduceMul, reduceCtorEq, Nat.reduceAdd, Nat.reduceSub, Nat.reduceLeDiff, Nat.reduceLT, Int.reduceToNat, Int.reduceLE, Int.reduceLT, mens, men]
    unfold szControl
    refine ⟨by rw [fits_i64]; omega, ?_⟩
    obtain ⟨l1, hl1⟩ : ∃ m : Int, m = l - x.name.size := ⟨_, rfl⟩
    have u1 : l1 ≤ l := by omega
    rw [← hl1]
    split
    · rename_i hn; rw [szTh, if_pos hn]
    rename_i hn0
    rw [szTh, if_neg hn0]
theorem g_szControlS : chkF Go.Proofs.Tryz.prog fid_laws_szControlS (szSl 3 (some 3) fid_laws_szControl) = true := by kernel_rfl
theorem sem_szControlS (a : List TControl) (hl : a.length ≤ 9223372036854775807) (hb : ∀ y ∈ a, bdControl 9223372036854775807 y) (l : Int) (h0 : 0 ≤ l) (h1 : l ≤ 1048576) : szL szControl a l ≤ l ∧ ∀ lvl S, Sem Go.Proofs.Tryz.prog fid_laws_szControlS lvl [.tr (.sl (a.map cControl)), iI l] S (iI (szL szControl a l)) S :=
  ⟨szL_le a (fun x hx l h0 h1 => (sem_szControl x (hb x hx) l h0 h1).1) h0 h1, fun lvl S => sem_szSl g_szControlS cControl szControl cControl_len a l hl h0 h1 (fun x hx l h0 h1 => sem_szControl x (hb x hx) l h0 h1) lvl S⟩
end Go.Fd

namespace Go.Fd
set_option maxRecDepth 20000
theorem g_eqIntS : chkF Go.Proofs.Tryz.prog fid_laws_eqIntS eqS1 = true := by kernel_rfl
theorem sem_eqIntS (a b : (List Int)) (ha : a.length ≤ 9223372036854775807) (lvl : Nat) (S : Sto) : Sem Go.Proofs.Tryz.prog fid_laws_eqIntS lvl [.tr (.sl (rI a)), .tr (.sl (rI b))] S (iB (decide (a = b))) S := sem_eqI g_eqIntS a b ha lvl S
theorem sem_eqNode (x y : TNode) (hb : bdNode 9223372036854775807 x) (lvl : Nat) (S : Sto) : Sem Go.Proofs.Tryz.prog fid_laws_eqNode lvl [.ag ((cNode x).map .tr), .ag ((cNode y).map .tr)] S (iB (decide (x = y))) S := by
  have b0 : x.links.length ≤ 9223372036854775807 := hb
  refine sem_of_chk k_laws_eqNode trivial ?_
  simp only [c_laws_eqNode, cNode, List.map_cons, List.map_nil, EVA, ↓reduceIte, Nat.reduceEqDiff, Nat.reduceMul, reduceCtorEq, Nat.reduceAdd, Nat.reduceSub, Nat.reduceLeDiff, Nat.reduceLT, Int.reduceToNat, Int.reduceLE, Int.reduceLT, mens, men]
  refine ite_of (fun hne => ?_) (fun heq0 => ?_)
  · have : ¬ x = y := fun e => (by rw [e] at hne; simp at hne)
    simp [this]
  refine ite_of (fun hne => ?_) (fun heq1 => ?_)
  · have : ¬ x = y := fun e => (by rw [e] at hne; simp at hne)
    simp [this]
  refine kca_intro (sem_eqIntS x.links y.links b0) ?_
  simp only [Bool.not_eq_true', EVA, ↓reduceIte, Nat.reduceEqDiff, Nat.reduceMul, reduceCtorEq, Nat.reduceAdd, Nat.reduceSub, Nat.reduceLeDiff, Nat.reduceLT, Int.reduceToNat, Int.reduceLE, Int.reduceLT, mens, men]
  refine ite_of (fun hne => ?_) (fun heq2 => ?_)
  · have : ¬ x = y := fun e => (by rw [e] at hne; simp at hne)
    simp [this]
  have : x = y := by
    cases x; cases y; simp_all
  simp [this]
theorem g_eqNodeS : chkF Go.Proofs.Tryz.prog fid_laws_eqNodeS (eqSl 3 (some 3) fid_laws_eqNode) = true := by kernel_rfl
theorem sem_eqNodeS (a b : (List TNode)) (ha : a.length ≤ 9223372036854775807) (ha2 : ∀ y ∈ a, bdNode 9223372036854775807 y) (lvl : Nat) (S : Sto) : Sem Go.Proofs.Tryz.prog fid_laws_eqNodeS lvl [.tr (.sl (a.map cNode)), .tr (.sl (b.map cNode))] S (iB (decide (a = b))) S :=
  sem_eqSl g_eqNodeS cNode (fun _ => rfl) a b ha (fun x hx y _ lvl S => sem_eqNode x y (ha2 x hx) lvl S) lvl S
theorem sem_eqWire (x y : TWire) (hb : bdWire 9223372036854775807 x) (lvl : Nat) (S : Sto) : Sem Go.Proofs.Tryz.prog fid_laws_eqWire lvl [.ag ((cWire x).map .tr), .ag ((cWire y).map .tr)] S (iB (decide (x = y))) S := by
  have b0 : x.name.size ≤ 9223372036854775807 := hb
  refine sem_of_chk k_laws_eqWire trivial ?_
  simp only [c_laws_eqWire, cWire, List.map_cons, List.map_nil, EVA, ↓reduceIte, Nat.reduceEqDiff, Nat.reduceMul, reduceCtorEq, Nat.reduceAdd, Nat.reduceSub, Nat.reduceLeDiff, Nat.reduceLT, Int.reduceToNat, Int.reduceLE, Int.reduceLT, mens, men]
  refine ite_of (fun hne => ?_) (fun heq0 => ?_)
  · have : ¬ x = y := fun e => (by rw [e] at hne; simp at hne)
    simp [this]
  refine ite_of (fun hne => ?_) (fun heq1 => ?_)
  · have : ¬ x = y := fun e => (by rw [e] at hne; simp at hne)
    simp [this]
  have : x = y := by
    cases x; cases y; simp_all
  simp [this]
theorem g_eqWireS : chkF Go.Proofs.Tryz.prog fid_laws_eqWireS (eqSl 2 (some 2) fid_laws_eqWire) = true := by kernel_rfl
theorem sem_eqWireS (a b : (List TWire)) (ha : a.length ≤ 9223372036854775807) (ha2 : ∀ y ∈ a, bdWire 9223372036854775807 y) (lvl : Nat) (S : Sto) : Sem Go.Proofs.Tryz.prog fid_laws_eqWireS lvl [.tr (.sl (a.map cWire)), .tr (.sl (b.map cWire))] S (iB (decide (a = b))) S :=
  sem_eqSl g_eqWireS cWire (fun _ => rfl) a b ha (fun x hx y _ lvl S => sem_eqWire x y (ha2 x hx) lvl S) lvl S
theorem g_eqStringS : chkF Go.Proofs.Tryz.prog fid_laws_eqStringS eqS1 = true := by kernel_rfl
theorem sem_eqStringS (a b : (List ByteArray)) (ha : a.length ≤ 9223372036854775807) (lvl : Nat) (S : Sto) : Sem Go.Proofs.Tryz.prog fid_laws_eqStringS lvl [.tr (.sl (rS a)), .tr (.sl (rS b))] S (iB (decide (a = b))) S := sem_eqS g_eqStringS a b ha lvl S
theorem sem_eqBigraph (x y : TBigraph) (hb : bdBigraph 9223372036854775807 x) (lvl : Nat) (S : Sto) : Sem Go.Proofs.Tryz.prog fid_laws_eqBigraph lvl [.ag ((cBigraph x).map .tr), .ag ((cBigraph y).map .tr)] S (iB (decide (x = y))) S := by
  obtain ⟨b0, b1, b2, b3, b4, b5, b6⟩ := hb
  refine sem_of_chk k_laws_eqBigraph trivial ?_
  simp only [c_laws_eqBigraph, cBigraph, List.map_cons, List.map_nil, EVA, ↓reduceIte, Nat.reduceEqDiff, Nat.reduceMul, reduceCtorEq, Nat.reduceAdd, Nat.reduceSub, Nat.reduceLeDiff, Nat.reduceLT, Int.reduceToNat, Int.reduceLE, Int.reduceLT, mens, men]
  refine ite_of (fun hne => ?_) (fun heq0 => ?_)
  · have : ¬ x = y := fun e => (by rw [e] at hne; simp at hne)
    simp [this]
  refine kca_intro (sem_eqNodeS x.nodes y.nodes b0 b1) ?_
  simp only [Bool.not_eq_true', EVA, ↓reduceIte, Nat.reduceEqDiff, Nat.reduceMul, reduceCtorEq, Nat.reduceAdd, Nat.reduceSub, Nat.reduceLeDiff, Nat.reduceLT, Int.reduceToNat, Int.reduceLE, Int.reduceLT, mens, men]
  refine ite_of (fun hne => ?_) (fun heq1 => ?_)
  · have : ¬ x = y := fun e => (by rw [e] at hne; simp at hne)
    simp [this]
  refine kca_intro (sem_eqIntS x.sites y.sites b2) ?_
  simp only [Bool.not_eq_true', EVA, ↓reduceIte, Nat.reduceEqDiff, Nat.reduceMul, reduceCtorEq, Nat.reduceAdd, Nat.reduceSub, Nat.reduceLeDiff, Nat.reduceLT, Int.reduceToNat, Int.reduceLE, Int.reduceLT, mens, men]
  refine ite_of (fun hne => ?_) (fun heq2 => ?_)
  · have : ¬ x = y := fun e => (by rw [e] at hne; simp at hne)
    simp [this]
  refine ite_of (fun hne => ?_) (fun heq3 => ?_)
  · have : ¬ x = y := fun e => (by rw [e] at hne; simp at hne)
    simp [this]
  refine kca_intro (sem_eqStringS x.outer y.outer b3) ?_
  simp only [Bool.not_eq_true', EVA, ↓reduceIte, Nat.reduceEqDiff, Nat.reduceMul, reduceCtorEq, Nat.reduceAdd, Nat.reduceSub, Nat.reduceLeDiff, Nat.reduceLT, Int.reduceToNat, Int.reduceLE, Int.reduceLT, mens, men]
  refine ite_of (fun hne => ?_) (fun heq4 => ?_)
  · have : ¬ x = y := fun e => (by rw [e] at hne; simp at hne)
    simp [this]
  refine kca_intro (sem_eqWireS x.inner y.inner b5 b6) ?_
  simp only [Bool.not_eq_true', EVA, ↓reduceIte, Nat.reduceEqDiff, Nat.reduceMul, reduceCtorEq, Nat.reduceAdd, Nat.reduceSub, Nat.reduceLeDiff, Nat.reduceLT, Int.reduceToNat, Int.reduceLE, Int.reduceLT, mens, men]
  refine ite_of (fun hne => ?_) (fun heq5 => ?_)
  · have : ¬ x = y := fun e => (by rw [e] at hne; simp at hne)
    simp [this]
  have : x = y := by
    cases x; cases y; simp_all
  simp [this]
theorem g_eqBigraphS : chkF Go.Proofs.Tryz.prog fid_laws_eqBigraphS (eqSl 6 (some 6) fid_laws_eqBigraph) = true := by kernel_rfl
theorem sem_eqBigraphS (a b : (List TBigraph)) (ha : a.length ≤ 9223372036854775807) (ha2 : ∀ y ∈ a, bdBigraph 9223372036854775807 y) (lvl : Nat) (S : Sto) : Sem Go.Proofs.Tryz.prog fid_laws_eqBigraphS lvl [.tr (.sl (a.map cBigraph)), .tr (.sl (b.map cBigraph))] S (iB (decide (a = b))) S :=
  sem_eqSl g_eqBigraphS cBigraph (fun _ => rfl) a b ha (fun x hx y _ lvl S => sem_eqBigraph x y (ha2 x hx) lvl S) lvl S
theorem sem_eqControl (x y : TControl) (hb : bdControl 9223372036854775807 x) (lvl : Nat) (S : Sto) : Sem Go.Proofs.Tryz.prog fid_laws_eqControl lvl [.ag ((cControl x).map .tr), .ag ((cControl y).map .tr)] S (iB (decide (x = y))) S := by
  have b0 : x.name.size ≤ 9223372036854775807 := hb
  refine sem_of_chk k_laws_eqControl trivial ?_
  simp only [c_laws_eqControl, cControl, List.map_cons, List.map_nil, EVA, ↓reduceIte, Nat.reduceEqDiff, Nat.reduceMul, reduceCtorEq, Nat.reduceAdd, Nat.reduceSub, Nat.reduceLeDiff, Nat.reduceLT, Int.reduceToNat, Int.reduceLE, Int.reduceLT, mens, men]
  refine ite_of (fun hne => ?_) (fun heq0 => ?_)
  · have : ¬ x = y := fun e => (by rw [e] at hne; simp at hne)
    simp [this]
  refine ite_of (fun hne => ?_) (fun heq1 => ?_)
  · have : ¬ x = y := fun e => (by rw [e] at hne; simp at hne)
    simp [this]
  refine ite_of (fun hne => ?_) (fun heq2 => ?_)
  · have : ¬ x = y := fun e => (by rw [e] at hne; simp at hne)
    simp [this]
  have : x = y := by
    cases x; cases y; simp_all
  simp [this]
theorem g_eqControlS : chkF Go.Proofs.Tryz.prog fid_laws_eqControlS (eqSl 3 (some 3) fid_laws_eqControl) = true := by kernel_rfl
theorem sem_eqControlS (a b : (List TControl)) (ha : a.length ≤ 9223372036854775807) (ha2 : ∀ y ∈ a, bdControl 9223372036854775807 y) (lvl : Nat) (S : Sto) : Sem Go.Proofs.Tryz.prog fid_laws_eqControlS lvl [.tr (.sl (a.map cControl)), .tr (.sl (b.map cControl))] S (iB (decide (a = b))) S :=
  sem_eqSl g_eqControlS cControl (fun _ => rfl) a b ha (fun x hx y _ lvl S => sem_eqControl x y (ha2 x hx) lvl S) lvl S
end Go.Fd

namespace Go.Fd
set_option maxRecDepth 20000
theorem g_toIntS : chkF Go.Proofs.Tryz.prog fid_laws_toIntS (toS1 (.int .i64 0)) = true := by kernel_rfl
theorem sem_toIntS (a : (List Int)) (ha : a.length ≤ 4294967296) (lvl : Nat) (S : Sto) : Sem Go.Proofs.Tryz.prog fid_laws_toIntS lvl [.tr (.sl (rI a))] S (.ow 1 (rI a) true) S := sem_toI g_toIntS a ha lvl S
theorem sem_toNode (x : TNode) (hb : bdNode 4294967296 x) (lvl : Nat) (S : Sto) : Sem Go.Proofs.Tryz.prog fid_laws_toNode lvl [.ag ((cNode x).map .tr)] S (oNode x) S := by
  have b0 : x.links.length ≤ 4294967296 := hb
  refine sem_of_chk k_laws_toNode (by simp [oNode, low, men, mens]) ?_
  simp only [c_laws_toNode, cNode, zfill, zobs, List.map_cons, List.map_nil, r_setAt0, r_setAt1, List.set_cons_zero, List.set_cons_succ, EVA, ↓reduceIte, Nat.reduceEqDiff, Nat.reduceMul, reduceCtorEq, Nat.reduceAdd, Nat.reduceSub, Nat.reduceLeDiff, Nat.reduceLT, Int.reduceToNat, Int.reduceLE, Int.reduceLT, mens, men]
  refine kca_intro (sem_toIntS x.links b0) ?_
  simp only [r_setAt0, r_setAt1, List.set_cons_zero, List.set_cons_succ, Prod.mk.injEq, EVA, ↓reduceIte, Nat.reduceEqDiff, Nat.reduceMul, reduceCtorEq, Nat.reduceAdd, Nat.reduceSub, Nat.reduceLeDiff, Nat.reduceLT, Int.reduceToNat, Int.reduceLE, Int.reduceLT, mens, men]
  rfl
theorem sem_toNodeS (a : (List TNode)) (ha : a.length ≤ 4294967296) (hb : ∀ y ∈ a, bdNode 4294967296 y) (lvl : Nat) (S : Sto) : Sem Go.Proofs.Tryz.prog fid_laws_toNodeS lvl [.tr (.sl (a.map cNode))] S (.ow 3 (a.map cNode) true) S := by
  refine sem_of_chk k_laws_toNodeS trivial ?_
  simp only [c_laws_toNodeS, List.length_map, bigN, Int.natCast_nonneg, EVA, ↓reduceIte, Nat.reduceEqDiff, Nat.reduceMul, reduceCtorEq, Nat.reduceAdd, Nat.reduceSub, Nat.reduceLeDiff, Nat.reduceLT, Int.reduceToNat, Int.reduceLE, Int.reduceLT, mens, men]
  refine ⟨by omega, ?_⟩
  refine wp_count (α := Unit) a.length (fun j _ => ⟨lvl, [(0, .tr (.sl (a.map cNode))), (3, .hd (lvl, 224) [] 0 a.length none a.length), (4, iI j)], [(224, .ar 3 (filled cNode [tv 0, tv 0, .sl []] a j) true a.length (j * 1))], S⟩) (fun _ _ => True) () ⟨by simp only [EVA, ↓reduceIte, Nat.reduceEqDiff, Nat.reduceMul, reduceCtorEq, Nat.reduceAdd, Nat.reduceSub, Nat.reduceLeDiff, Nat.reduceLT, Int.reduceToNat, Int.reduceLE, Int.reduceLT, mens, men], by (simp only [filled_zero, EVA, ↓reduceIte, Nat.reduceEqDiff, Nat.reduceMul, reduceCtorEq, Nat.reduceAdd, Nat.reduceSub, Nat.reduceLeDiff, Nat.reduceLT, Int.reduceToNat, Int.reduceLE, Int.reduceLT, mens, men]) <;> rfl⟩ trivial ?_
  intro j _ hj _
  simp only [List.length_map, EVA, ↓reduceIte, Nat.reduceEqDiff, Nat.reduceMul, reduceCtorEq, Nat.reduceAdd, Nat.reduceSub, Nat.reduceLeDiff, Nat.reduceLT, Int.reduceToNat, Int.reduceLE, Int.reduceLT, mens, men]
  refine ite_of (fun hlt => ?_) (fun hge => ?_)
  · have hja : j < a.length := by omega
    have ga : (a.map cNode)[j]? = some (cNode a[j]) := by simp [hja]
    have gz : (filled cNode [tv 0, tv 0, .sl []] a j)[j]? = some [tv 0, tv 0, .sl []] := filled_get hja
    have hfl : (filled cNode [tv 0, tv 0, .sl []] a j).length = a.length := filled_length hj
    have hsem := fun lvl S => sem_toNode a[j] (hb a[j] (List.getElem_mem hja)) lvl S
    simp only [ga, gz, Int.natCast_nonneg, Nat.le_refl, hja, cNode, oNode, Nat.reduceLeDiff, EVA, ↓reduceIte, Nat.reduceEqDiff, Nat.reduceMul, reduceCtorEq, Nat.reduceAdd, Nat.reduceSub, Nat.reduceLT, Int.reduceToNat, Int.reduceLE, Int.reduceLT, mens, men]
    refine kca_intro hsem ?_
    simp only [oNode, gz, Int.natCast_nonneg, Nat.le_refl, hja, hfl, setp, List.getElem?_set_self, List.set_set, List.length_set, List.set_cons_zero, List.set_cons_succ, Prod.mk.injEq, ne_eq, not_false_eq_true, EVA, ↓reduceIte, Nat.reduceEqDiff, Nat.reduceMul, reduceCtorEq, Nat.reduceAdd, Nat.reduceSub, Nat.reduceLeDiff, Nat.reduceLT, Int.reduceToNat, Int.reduceLE, Int.reduceLT, mens, men]
    refine ⟨by rw [fits_i64]; omega, cntJ_intro () hja ?_ trivial⟩
    have hse := filled_set (c := cNode) (z := [tv 0, tv 0, .sl []]) (e := [tv a[j].control, tv a[j].parent, .sl (rI a[j].links)]) hja rfl
    rw [hse, show (j + 1) * 1 = j * 1 + 1 from by omega]
    rfl
  · have : j = a.length := by omega
    subst this
    rw [filled_all]
    simp
theorem sem_toWire (x : TWire) (hb : bdWire 4294967296 x) (lvl : Nat) (S : Sto) : Sem Go.Proofs.Tryz.prog fid_laws_toWire lvl [.ag ((cWire x).map .tr)] S (oWire x) S := by
  have b0 : x.name.size ≤ 4294967296 := hb
  refine sem_of_chk k_laws_toWire (by simp [oWire, low, men, mens]) ?_
  simp only [c_laws_toWire, cWire, zfill, zobs, List.map_cons, List.map_nil, r_setAt0, r_setAt1, List.set_cons_zero, List.set_cons_succ, EVA, ↓reduceIte, Nat.reduceEqDiff, Nat.reduceMul, reduceCtorEq, Nat.reduceAdd, Nat.reduceSub, Nat.reduceLeDiff, Nat.reduceLT, Int.reduceToNat, Int.reduceLE, Int.reduceLT, mens, men]
  rfl
theorem sem_toWireS (a : (List TWire)) (ha : a.length ≤ 4294967296) (hb : ∀ y ∈ a, bdWire 4294967296 y) (lvl : Nat) (S : Sto) : Sem Go.Proofs.Tryz.prog fid_laws_toWireS lvl [.tr (.sl (a.map cWire))] S (.ow 2 (a.map cWire) true) S := by
  refine sem_of_chk k_laws_toWireS trivial ?_
  simp only [c_laws_toWireS, List.length_map, bigN, Int.natCast_nonneg, EVA, ↓reduceIte, Nat.reduceEqDiff, Nat.reduceMul, reduceCtorEq, Nat.reduceAdd, Nat.reduceSub, Nat.reduceLeDiff, Nat.reduceLT, Int.reduceToNat, Int.reduceLE, Int.reduceLT, mens, men]
  refine ⟨by omega, ?_⟩
  refine wp_count (α := Unit) a.length (fun j _ => ⟨lvl, [(0, .tr (.sl (a.map cWire))), (3, .hd (lvl, 224) [] 0 a.length none a.length), (4, iI j)], [(224, .ar 2 (filled cWire [ts ⟨#[]⟩, tv 0] a j) true a.length (j * 0))], S⟩) (fun _ _ => True) () ⟨by simp only [EVA, ↓reduceIte, Nat.reduceEqDiff, Nat.reduceMul, reduceCtorEq, Nat.reduceAdd, Nat.reduceSub, Nat.reduceLeDiff, Nat.reduceLT, Int.reduceToNat, Int.reduceLE, Int.reduceLT, mens, men], by (simp only [filled_zero, EVA, ↓reduceIte, Nat.reduceEqDiff, Nat.reduceMul, reduceCtorEq, Nat.reduceAdd, Nat.reduceSub, Nat.reduceLeDiff, Nat.reduceLT, Int.reduceToNat, Int.reduceLE, Int.reduceLT, mens, men]) <;> rfl⟩ trivial ?_
  intro j _ hj _
  simp only [List.length_map, EVA, ↓reduceIte, Nat.reduceEqDiff, Nat.reduceMul, reduceCtorEq, Nat.reduceAdd, Nat.reduceSub, Nat.reduceLeDiff, Nat.reduceLT, Int.reduceToNat, Int.reduceLE, Int.reduceLT, mens, men]
  refine ite_of (fun hlt => ?_) (fun hge => ?_)
  · have hja : j < a.length := by omega
    have ga : (a.map cWire)[j]? = some (cWire a[j]) := by simp [hja]
    have gz : (filled cWire [ts ⟨#[]⟩, tv 0] a j)[j]? = some [ts ⟨#[]⟩, tv 0] := filled_get hja
    have hfl : (filled cWire [ts ⟨#[]⟩, tv 0] a j).length = a.length := filled_length hj
    have hsem := fun lvl S => sem_toWire a[j] (hb a[j] (List.getElem_mem hja)) lvl S
    simp only [ga, gz, Int.natCast_nonneg, Nat.le_refl, hja, cWire, oWire, Nat.reduceLeDiff, EVA, ↓reduceIte, Nat.reduceEqDiff, Nat.reduceMul, reduceCtorEq, Nat.reduceAdd, Nat.reduceSub, Nat.reduceLT, Int.reduceToNat, Int.reduceLE, Int.reduceLT, mens, men]
    refine kca_intro hsem ?_
    simp only [oWire, gz, Int.natCast_nonneg, Nat.le_refl, hja, hfl, setp, List.getElem?_set_self, List.set_set, List.length_set, List.set_cons_zero, List.set_cons_succ, Prod.mk.injEq, ne_eq, not_false_eq_true, EVA, ↓reduceIte, Nat.reduceEqDiff, Nat.reduceMul, reduceCtorEq, Nat.reduceAdd, Nat.reduceSub, Nat.reduceLeDiff, Nat.reduceLT, Int.reduceToNat, Int.reduceLE, Int.reduceLT, mens, men]
    refine ⟨by rw [fits_i64]; omega, cntJ_intro () hja ?_ trivial⟩
    have hse := filled_set (c := cWire) (z := [ts ⟨#[]⟩, tv 0]) (e := [ts a[j].name, tv a[j].link]) hja rfl
    rw [hse, show (j + 1) * 0 = j * 0 from by omega]
    rfl
  · have : j = a.length := by omega
    subst this
    rw [filled_all]
    simp
theorem g_toStringS : chkF Go.Proofs.Tryz.prog fid_laws_toStringS (toS1 (.string ⟨#[]⟩)) = true := by kernel_rfl
theorem sem_toStringS (a : (List ByteArray)) (ha : a.length ≤ 4294967296) (lvl : Nat) (S : Sto) : Sem Go.Proofs.Tryz.prog fid_laws_toStringS lvl [.tr (.sl (rS a))] S (.ow 1 (rS a) true) S := sem_toS g_toStringS a ha lvl S
theorem sem_toBigraph (x : TBigraph) (hb : bdBigraph 4294967296 x) (lvl : Nat) (S : Sto) : Sem Go.Proofs.Tryz.prog fid_laws_toBigraph lvl [.ag ((cBigraph x).map .tr)] S (oBigraph x) S := by
  obtain ⟨b0, b1, b2, b3, b4, b5, b6⟩ := hb
  refine sem_of_chk k_laws_toBigraph (by simp [oBigraph, low, men, mens]) ?_
  simp only [c_laws_toBigraph, cBigraph, zfill, zobs, List.map_cons, List.map_nil, r_setAt0, r_setAt1, List.set_cons_zero, List.set_cons_succ, EVA, ↓reduceIte, Nat.reduceEqDiff, Nat.reduceMul, reduceCtorEq, Nat.reduceAdd, Nat.reduceSub, Nat.reduceLeDiff, Nat.reduceLT, Int.reduceToNat, Int.reduceLE, Int.reduceLT, mens, men]
  refine kca_intro (sem_toNodeS x.nodes b0 b1) ?_
  simp only [r_setAt0, r_setAt1, List.set_cons_zero, List.set_cons_succ, Prod.mk.injEq, EVA, ↓reduceIte, Nat.reduceEqDiff, Nat.reduceMul, reduceCtorEq, Nat.reduceAdd, Nat.reduceSub, Nat.reduceLeDiff, Nat.reduceLT, Int.reduceToNat, Int.reduceLE, Int.reduceLT, mens, men]
  refine kca_intro (sem_toIntS x.sites b2) ?_
  simp only [r_setAt0, r_setAt1, List.set_cons_zero, List.set_cons_succ, Prod.mk.injEq, EVA, ↓reduceIte, Nat.reduceEqDiff, Nat.reduceMul, reduceCtorEq, Nat.reduceAdd, Nat.reduceSub, Nat.reduceLeDiff, Nat.reduceLT, Int.reduceToNat, Int.reduceLE, Int.reduceLT, mens, men]
  refine kca_intro (sem_toStringS x.outer b3) ?_
  simp only [r_setAt0, r_setAt1, List.set_cons_zero, List.set_cons_succ, Prod.mk.injEq, EVA, ↓reduceIte, Nat.reduceEqDiff, Nat.reduceMul, reduceCtorEq, Nat.reduceAdd, Nat.reduceSub, Nat.reduceLeDiff, Nat.reduceLT, Int.reduceToNat, Int.reduceLE, Int.reduceLT, mens, men]
  refine kca_intro (sem_toWireS x.inner b5 b6) ?_
  simp only [r_setAt0, r_setAt1, List.set_cons_zero, List.set_cons_succ, Prod.mk.injEq, EVA, ↓reduceIte, Nat.reduceEqDiff, Nat.reduceMul, reduceCtorEq, Nat.reduceAdd, Nat.reduceSub, Nat.reduceLeDiff, Nat.reduceLT, Int.reduceToNat, Int.reduceLE, Int.reduceLT, mens, men]
  rfl
theorem sem_toBigraphS (a : (List TBigraph)) (ha : a.length ≤ 4294967296) (hb : ∀ y ∈ a, bdBigraph 4294967296 y) (lvl : Nat) (S : Sto) : Sem Go.Proofs.Tryz.prog fid_laws_toBigraphS lvl [.tr (.sl (a.map cBigraph))] S (.ow 6 (a.map cBigraph) true) S := by
  refine sem_of_chk k_laws_toBigraphS trivial ?_
  simp only [c_laws_toBigraphS, List.length_map, bigN, Int.natCast_nonneg, EVA, ↓reduceIte, Nat.reduceEqDiff, Nat.reduceMul, reduceCtorEq, Nat.reduceAdd, Nat.reduceSub, Nat.reduceLeDiff, Nat.reduceLT, Int.reduceToNat, Int.reduceLE, Int.reduceLT, mens, men]
  refine ⟨by omega, ?_⟩
  refine wp_count (α := Unit) a.length (fun j _ => ⟨lvl, [(0, .tr (.sl (a.map cBigraph))), (3, .hd (lvl, 224) [] 0 a.length none a.length), (4, iI j)], [(224, .ar 6 (filled cBigraph [tv 0, .sl [], .sl [], tv 0, .sl [], .sl []] a j) true a.length (j * 4))], S⟩) (fun _ _ => True) () ⟨by simp only [EVA, ↓reduceIte, Nat.reduceEqDiff, Nat.reduceMul, reduceCtorEq, Nat.reduceAdd, Nat.reduceSub, Nat.reduceLeDiff, Nat.reduceLT, Int.reduceToNat, Int.reduceLE, Int.reduceLT, mens, men], by (simp only [filled_zero, EVA, ↓reduceIte, Nat.reduceEqDiff, Nat.reduceMul, reduceCtorEq, Nat.reduceAdd, Nat.reduceSub, Nat.reduceLeDiff, Nat.reduceLT, Int.reduceToNat, Int.reduceLE, Int.reduceLT, mens, men]) <;> rfl⟩ trivial ?_
  intro j _ hj _
  simp only [List.length_map, EVA, ↓reduceIte, Nat.reduceEqDiff, Nat.reduceMul, reduceCtorEq, Nat.reduceAdd, Nat.reduceSub, Nat.reduceLeDiff, Nat.reduceLT, Int.reduceToNat, Int.reduceLE, Int.reduceLT, mens, men]
  refine ite_of (fun hlt => ?_) (fun hge => ?_)
  · have hja : j < a.length := by omega
    have ga : (a.map cBigraph)[j]? = some (cBigraph a[j]) := by simp [hja]
    have gz : (filled cBigraph [tv 0, .sl [], .sl [], tv 0, .sl [], .sl []] a j)[j]? = some [tv 0, .sl [], .sl [], tv 0, .sl [], .sl []] := filled_get hja
    have hfl : (filled cBigraph [tv 0, .sl [], .sl [], tv 0, .sl [], .sl []] a j).length = a.length := filled_length hj
    have hsem := fun lvl S => sem_toBigraph a[j] (hb a[j] (List.getElem_mem hja)) lvl S
    simp only [ga, gz, Int.natCast_nonneg, Nat.le_refl, hja, cBigraph, oBigraph, Nat.reduceLeDiff, EVA, ↓reduceIte, Nat.reduceEqDiff, Nat.reduceMul, reduceCtorEq, Nat.reduceAdd, Nat.reduceSub, Nat.reduceLT, Int.reduceToNat, Int.reduceLE, Int.reduceLT, mens, men]
    refine kca_intro hsem ?_
    simp only [oBigraph, gz, Int.natCast_nonneg, Nat.le_refl, hja, hfl, setp, List.getElem?_set_self, List.set_set, List.length_set, List.set_cons_zero, List.set_cons_succ, Prod.mk.injEq, ne_eq, not_false_eq_true, EVA, ↓reduceIte, Nat.reduceEqDiff, Nat.reduceMul, reduceCtorEq, Nat.reduceAdd, Nat.reduceSub, Nat.reduceLeDiff, Nat.reduceLT, Int.reduceToNat, Int.reduceLE, Int.reduceLT, mens, men]
    refine ⟨by rw [fits_i64]; omega, cntJ_intro () hja ?_ trivial⟩
    have hse := filled_set (c := cBigraph) (z := [tv 0, .sl [], .sl [], tv 0, .sl [], .sl []]) (e := [tv a[j].roots, .sl ((a[j].nodes).map cNode), .sl (rI a[j].sites), tv a[j].edges, .sl (rS a[j].outer), .sl ((a[j].inner).map cWire)]) hja rfl
    rw [hse, show (j + 1) * 4 = j * 4 + 1 + 1 + 1 + 1 from by omega]
    rfl
  · have : j = a.length := by omega
    subst this
    rw [filled_all]
    simp
theorem sem_toControl (x : TControl) (hb : bdControl 4294967296 x) (lvl : Nat) (S : Sto) : Sem Go.Proofs.Tryz.prog fid_laws_toControl lvl [.ag ((cControl x).map .tr)] S (oControl x) S := by
  have b0 : x.name.size ≤ 4294967296 := hb
  refine sem_of_chk k_laws_toControl (by simp [oControl, low, men, mens]) ?_
  simp only [c_laws_toControl, cControl, zfill, zobs, List.map_cons, List.map_nil, r_setAt0, r_setAt1, List.set_cons_zero, List.set_cons_succ, EVA, ↓reduceIte, Nat.reduceEqDiff, Nat.reduceMul, reduceCtorEq, Nat.reduceAdd, Nat.reduceSub, Nat.reduceLeDiff, Nat.reduceLT, Int.reduceToNat, Int.reduceLE, Int.reduceLT, mens, men]
  rfl
theorem sem_toControlS (a : (List TControl)) (ha : a.length ≤ 4294967296) (hb : ∀ y ∈ a, bdControl 4294967296 y) (lvl : Nat) (S : Sto) : Sem Go.Proofs.Tryz.prog fid_laws_toControlS lvl [.tr (.sl (a.map cControl))] S (.ow 3 (a.map cControl) true) S := by
  refine sem_of_chk k_laws_toControlS trivial ?_
  simp only [c_laws_toControlS, List.length_map, bigN, Int.natCast_nonneg, EVA, ↓reduceIte, Nat.reduceEqDiff, Nat.reduceMul, reduceCtorEq, Nat.reduceAdd, Nat.reduceSub, Nat.reduceLeDiff, Nat.reduceLT, Int.reduceToNat, Int.reduceLE, Int.reduceLT, mens, men]
  refine ⟨by omega, ?_⟩
  refine wp_count (α := Unit) a.length (fun j _ => ⟨lvl, [(0, .tr (.sl (a.map cControl))), (3, .hd (lvl, 224) [] 0 a.length none a.length), (4, iI j)], [(224, .ar 3 (filled cControl [ts ⟨#[]⟩, tv 0, tv 0] a j) true a.length (j * 0))], S⟩) (fun _ _ => True) () ⟨by simp only [EVA, ↓reduceIte, Nat.reduceEqDiff, Nat.reduceMul, reduceCtorEq, Nat.reduceAdd, Nat.reduceSub, Nat.reduceLeDiff, Nat.reduceLT, Int.reduceToNat, Int.reduceLE, Int.reduceLT, mens, men], by (simp only [filled_zero, EVA, ↓reduceIte, Nat.reduceEqDiff, Nat.reduceMul, reduceCtorEq, Nat.reduceAdd, Nat.reduceSub, Nat.reduceLeDiff, Nat.reduceLT, Int.reduceToNat, Int.reduceLE, Int.reduceLT, mens, men]) <;> rfl⟩ trivial ?_
  intro j _ hj _
  simp only [List.length_map, EVA, ↓reduceIte, Nat.reduceEqDiff, Nat.reduceMul, reduceCtorEq, Nat.reduceAdd, Nat.reduceSub, Nat.reduceLeDiff, Nat.reduceLT, Int.reduceToNat, Int.reduceLE, Int.reduceLT, mens, men]
  refine ite_of (fun hlt => ?_) (fun hge => ?_)
  · have hja : j < a.length := by omega
    have ga : (a.map cControl)[j]? = some (cControl a[j]) := by simp [hja]
    have gz : (filled cControl [ts ⟨#[]⟩, tv 0, tv 0] a j)[j]? = some [ts ⟨#[]⟩, tv 0, tv 0] := filled_get hja
    have hfl : (filled cControl [ts ⟨#[]⟩, tv 0, tv 0] a j).length = a.length := filled_length hj
    have hsem := fun lvl S => sem_toControl a[j] (hb a[j] (List.getElem_mem hja)) lvl S
    simp only [ga, gz, Int.natCast_nonneg, Nat.le_refl, hja, cControl, oControl, Nat.reduceLeDiff, EVA, ↓reduceIte, Nat.reduceEqDiff, Nat.reduceMul, reduceCtorEq, Nat.reduceAdd, Nat.reduceSub, Nat.reduceLT, Int.reduceToNat, Int.reduceLE, Int.reduceLT, mens, men]
    refine kca_intro hsem ?_
    simp only [oControl, gz, Int.natCast_nonneg, Nat.le_refl, hja, hfl, setp, List.getElem?_set_self, List.set_set, List.length_set, List.set_cons_zero, List.set_cons_succ, Prod.mk.injEq, ne_eq, not_false_eq_true, EVA, ↓reduceIte, Nat.reduceEqDiff, Nat.reduceMul, reduceCtorEq, Nat.reduceAdd, Nat.reduceSub, Nat.reduceLeDiff, Nat.reduceLT, Int.reduceToNat, Int.reduceLE, Int.reduceLT, mens, men]
    refine ⟨by rw [fits_i64]; omega, cntJ_intro () hja ?_ trivial⟩
    have hse := filled_set (c := cControl) (z := [ts ⟨#[]⟩, tv 0, tv 0]) (e := [ts a[j].name, tv a[j].ports, tv a[j].kind_]) hja rfl
    rw [hse, show (j + 1) * 0 = j * 0 from by omega]
    rfl
  · have : j = a.length := by omega
    subst this
    rw [filled_all]
    simp
end Go.Fd

namespace Go.Fd
theorem nL_one {α : Type} {f : α → Nat} {B : Nat} (l : List α) (h : ∀ x ∈ l, f x ≤ B) {n : Nat} (hl : l.length ≤ n) : nL f l ≤ n * B := Nat.le_trans (nL_le l h) (Nat.mul_le_mul_right _ hl)
theorem ok_big {sig : List TControl} {b : TBigraph} (h : bigOK sig b) : bdBigraph 4294967296 b ∧ 1 + (nBigraph b : Int) ≤ 4611686018427387904 := by
  refine ⟨bd_mono (by omega) (bd_small h), ?_⟩
  have hs := h.small
  have n1 := nL_one (f := nNode) (B := 1002) b.nodes (fun x hx => by have := hs.links x hx; simp only [nNode, nL_int]; omega) hs.nodes
  have n2 := nL_one (f := nInt) (B := 1) b.sites (fun x _ => by simp [nInt]) hs.sites
  have n3 := nL_one (f := nStr) (B := 1) b.outer (fun x _ => by simp [nStr]) hs.outer
  have n4 := nL_one (f := nWire) (B := 2) b.inner (fun x _ => by simp [nWire]) hs.inner
  unfold nBigraph
  omega
theorem ok_none : bdBigraph 4294967296 emptyB ∧ 1 + (nBigraph emptyB : Int) ≤ 4611686018427387904 := by
  refine ⟨⟨by simp [emptyB], by simp [emptyB], by simp [emptyB], by simp [emptyB], by simp [emptyB], by simp [emptyB], by simp [emptyB]⟩, ?_⟩
  simp [nBigraph, emptyB, nL]
end Go.Fd

namespace Go.Fd
theorem ok_ComposeAll (sig : List TControl) (L : List TBigraph) (_hn : sig.length ≤ 4294967296) (_hbs : ∀ y ∈ sig, bdControl 4294967296 y) (_hl : L.length ≤ 4294967296) (_hb : ∀ y ∈ L, bdBigraph 4294967296 y) : bdBigraph 4294967296 (r0_ComposeAll sig L) ∧ 1 + (nBigraph (r0_ComposeAll sig L) : Int) ≤ 4611686018427387904 := by
  unfold r0_ComposeAll
  cases h : caR sig L with
  | none => exact ok_none
  | some x =>
    unfold caR at h
    split at h
    · split at h
      · exact ok_big (caAt_big (by omega) h)
      · cases h
    · cases h
end Go.Fd

namespace Go.Fd
set_option maxRecDepth 20000
set_option maxHeartbeats 2000000 in
theorem sem_FnExactComposeAll (x0 : (List TControl)) (x1 : (List TBigraph)) (hb0_0 : x0.length ≤ 9223372036854775807) (hb0_1 : ∀ y ∈ x0, bdControl 9223372036854775807 y) (hb1_0 : x1.length ≤ 9223372036854775807) (hb1_1 : ∀ y ∈ x1, bdBigraph 9223372036854775807 y) (hf1 : ∀ y ∈ x1, ftBigraph y) (lvl : Nat) (S : Sto) : Sem Go.Proofs.Tryz.prog fid_laws_FnExactComposeAll lvl [.tr (.sl (x0.map cControl)), .tr (.sl (x1.map cBigraph))] S (iB true) S := by
  refine sem_of_chk k_laws_FnExactComposeAll trivial ?_
  simp only [c_laws_FnExactComposeAll, List.length_map, cut_map, cut_mL, mL_length, ne_eq, not_true_eq_false, bne_self_eq_false, cBigraph, oBigraph, EVA, ↓reduceIte, Nat.reduceEqDiff, Nat.reduceMul, reduceCtorEq, Nat.reduceAdd, Nat.reduceSub, Nat.reduceLeDiff, Nat.reduceLT, Int.reduceToNat, Int.reduceLE, Int.reduceLT, mens, men]
  have ul : (1048576 : Int) ≤ 1048576 := Int.le_refl _
  obtain ⟨_, ha0⟩ := sem_szControlS x0 hb0_0 hb0_1 (1048576) (by omega) (by omega)
  refine kca_intro ha0 ?_
  simp only [List.length_map, cut_map, cut_mL, mL_length, ne_eq, not_true_eq_false, bne_self_eq_false, cBigraph, oBigraph, EVA, ↓reduceIte, Nat.reduceEqDiff, Nat.reduceMul, reduceCtorEq, Nat.reduceAdd, Nat.reduceSub, Nat.reduceLeDiff, Nat.reduceLT, Int.reduceToNat, Int.reduceLE, Int.reduceLT, mens, men]
  refine ite_of (fun _ => trivial) (fun hz0 => ?_)
  have zp0 := (Zm_L (f := szControl) (fun y => (zpControl y)) x0) (1048576) (by omega) (by omega)
  have zq0 := (Zq_L (f := szControl) (n := nControl) (fun y => Zq_imp (zqControl y) (by omega)) x0) (1048576) (by omega) (by omega)
  simp only at zp0 zq0
  have hp0 := zp0.2 (by omega)
  have hq0 := zq0.2 (by omega)
  obtain ⟨hs0_0, hs0_1⟩ := hp0
  obtain ⟨_, ha1⟩ := sem_szBigraphS x1 hb1_0 hb1_1 (szL szControl x0 (1048576)) (by omega) (by omega)
  refine kca_intro ha1 ?_
  simp only [List.length_map, cut_map, cut_mL, mL_length, ne_eq, not_true_eq_false, bne_self_eq_false, cBigraph, oBigraph, EVA, ↓reduceIte, Nat.reduceEqDiff, Nat.reduceMul, reduceCtorEq, Nat.reduceAdd, Nat.reduceSub, Nat.reduceLeDiff, Nat.reduceLT, Int.reduceToNat, Int.reduceLE, Int.reduceLT, mens, men]
  refine ite_of (fun _ => trivial) (fun hz1 => ?_)
  have zp1 := (Zm_L (f := szBigraph) (fun y => (zpBigraph y)) x1) (szL szControl x0 (1048576)) (by omega) (by omega)
  have zq1 := (Zq_L (f := szBigraph) (n := nEBigraph) (fun y => Zq_imp (zqEBigraph y) (by omega)) x1) (szL szControl x0 (1048576)) (by omega) (by omega)
  simp only at zp1 zq1
  have hp1 := zp1.2 (by omega)
  have hq1 := zq1.2 (by omega)
  obtain ⟨hs1_0, hs1_1⟩ := hp1
  refine kca_intro (sem_toControlS x0 hs0_0 hs0_1) ?_
  simp only [List.length_map, cut_map, cut_mL, mL_length, ne_eq, not_true_eq_false, bne_self_eq_false, cBigraph, oBigraph, EVA, ↓reduceIte, Nat.reduceEqDiff, Nat.reduceMul, reduceCtorEq, Nat.reduceAdd, Nat.reduceSub, Nat.reduceLeDiff, Nat.reduceLT, Int.reduceToNat, Int.reduceLE, Int.reduceLT, mens, men]
  refine kca_intro (sem_toBigraphS x1 hs1_0 hs1_1) ?_
  simp only [List.length_map, cut_map, cut_mL, mL_length, ne_eq, not_true_eq_false, bne_self_eq_false, cBigraph, oBigraph, EVA, ↓reduceIte, Nat.reduceEqDiff, Nat.reduceMul, reduceCtorEq, Nat.reduceAdd, Nat.reduceSub, Nat.reduceLeDiff, Nat.reduceLT, Int.reduceToNat, Int.reduceLE, Int.reduceLT, mens, men]
  by_cases hB : caOK x0 x1
  · refine kca_intro (sem_spec_ComposeAll_y x0 x1 hs0_0 hs0_1 hs1_0 hs1_1 hf1 hB) ?_
    simp only [List.length_map, cut_map, cut_mL, mL_length, ne_eq, not_true_eq_false, bne_self_eq_false, cBigraph, oBigraph, EVA, ↓reduceIte, Nat.reduceEqDiff, Nat.reduceMul, reduceCtorEq, Nat.reduceAdd, Nat.reduceSub, Nat.reduceLeDiff, Nat.reduceLT, Int.reduceToNat, Int.reduceLE, Int.reduceLT, mens, men]
    refine kca_intro (sem_toControlS x0 hs0_0 hs0_1) ?_
    simp only [List.length_map, cut_map, cut_mL, mL_length, ne_eq, not_true_eq_false, bne_self_eq_false, cBigraph, oBigraph, EVA, ↓reduceIte, Nat.reduceEqDiff, Nat.reduceMul, reduceCtorEq, Nat.reduceAdd, Nat.reduceSub, Nat.reduceLeDiff, Nat.reduceLT, Int.reduceToNat, Int.reduceLE, Int.reduceLT, mens, men]
    refine kca_intro (sem_toBigraphS x1 hs1_0 hs1_1) ?_
    simp only [List.length_map, cut_map, cut_mL, mL_length, ne_eq, not_true_eq_false, bne_self_eq_false, cBigraph, oBigraph, EVA, ↓reduceIte, Nat.reduceEqDiff, Nat.reduceMul, reduceCtorEq, Nat.reduceAdd, Nat.reduceSub, Nat.reduceLeDiff, Nat.reduceLT, Int.reduceToNat, Int.reduceLE, Int.reduceLT, mens, men]
    refine kca_intro (sem_impl_ComposeAll x0 x1 hs0_0 hs0_1 hs1_0 hs1_1 hf1) ?_
    simp only [List.length_map, cut_map, cut_mL, mL_length, ne_eq, not_true_eq_false, bne_self_eq_false, cBigraph, oBigraph, EVA, ↓reduceIte, Nat.reduceEqDiff, Nat.reduceMul, reduceCtorEq, Nat.reduceAdd, Nat.reduceSub, Nat.reduceLeDiff, Nat.reduceLT, Int.reduceToNat, Int.reduceLE, Int.reduceLT, mens, men]
    obtain ⟨hr0_0, hrn⟩ := ok_ComposeAll x0 x1 hs0_0 hs0_1 hs1_0 hs1_1
    refine kca_intro (sem_eqBigraph (r0_ComposeAll x0 x1) (r0_ComposeAll x0 x1) (monoBigraph hr0_0)) ?_
    simp only [List.length_map, cut_map, cut_mL, mL_length, ne_eq, not_true_eq_false, bne_self_eq_false, cBigraph, oBigraph, EVA, ↓reduceIte, Nat.reduceEqDiff, Nat.reduceMul, reduceCtorEq, Nat.reduceAdd, Nat.reduceSub, Nat.reduceLeDiff, Nat.reduceLT, Int.reduceToNat, Int.reduceLE, Int.reduceLT, mens, men]
    refine kca_intro (sem_toControlS x0 hs0_0 hs0_1) ?_
    simp only [List.length_map, cut_map, cut_mL, mL_length, ne_eq, not_true_eq_false, bne_self_eq_false, cBigraph, oBigraph, EVA, ↓reduceIte, Nat.reduceEqDiff, Nat.reduceMul, reduceCtorEq, Nat.reduceAdd, Nat.reduceSub, Nat.reduceLeDiff, Nat.reduceLT, Int.reduceToNat, Int.reduceLE, Int.reduceLT, mens, men]
    refine kca_intro (sem_eqControlS x0 x0 hb0_0 hb0_1) ?_
    simp only [List.length_map, cut_map, cut_mL, mL_length, ne_eq, not_true_eq_false, bne_self_eq_false, cBigraph, oBigraph, EVA, ↓reduceIte, Nat.reduceEqDiff, Nat.reduceMul, reduceCtorEq, Nat.reduceAdd, Nat.reduceSub, Nat.reduceLeDiff, Nat.reduceLT, Int.reduceToNat, Int.reduceLE, Int.reduceLT, mens, men]
    refine kca_intro (sem_toBigraphS x1 hs1_0 hs1_1) ?_
    simp only [List.length_map, cut_map, cut_mL, mL_length, ne_eq, not_true_eq_false, bne_self_eq_false, cBigraph, oBigraph, EVA, ↓reduceIte, Nat.reduceEqDiff, Nat.reduceMul, reduceCtorEq, Nat.reduceAdd, Nat.reduceSub, Nat.reduceLeDiff, Nat.reduceLT, Int.reduceToNat, Int.reduceLE, Int.reduceLT, mens, men]
    refine kca_intro (sem_eqBigraphS x1 x1 hb1_0 hb1_1) ?_
    simp only [List.length_map, cut_map, cut_mL, mL_length, ne_eq, not_true_eq_false, bne_self_eq_false, cBigraph, oBigraph, EVA, ↓reduceIte, Nat.reduceEqDiff, Nat.reduceMul, reduceCtorEq, Nat.reduceAdd, Nat.reduceSub, Nat.reduceLeDiff, Nat.reduceLT, Int.reduceToNat, Int.reduceLE, Int.reduceLT, mens, men]
    simp only [arg1]
    refine kcy_mark1 mark_ControlS (a := x0) rfl (by omega) (by omega) hs0_0 hs0_1 ?_
    simp only [List.length_map, cut_map, cut_mL, mL_length, ne_eq, not_true_eq_false, bne_self_eq_false, cBigraph, oBigraph, EVA, ↓reduceIte, Nat.reduceEqDiff, Nat.reduceMul, reduceCtorEq, Nat.reduceAdd, Nat.reduceSub, Nat.reduceLeDiff, Nat.reduceLT, Int.reduceToNat, Int.reduceLE, Int.reduceLT, mens, men]
    simp only [arg1]
    refine kcy_mark1 mark_BigraphS (a := x1) rfl (by omega) (by omega) hs1_0 hs1_1 ?_
    simp only [List.length_map, cut_map, cut_mL, mL_length, ne_eq, not_true_eq_false, bne_self_eq_false, cBigraph, oBigraph, EVA, ↓reduceIte, Nat.reduceEqDiff, Nat.reduceMul, reduceCtorEq, Nat.reduceAdd, Nat.reduceSub, Nat.reduceLeDiff, Nat.reduceLT, Int.reduceToNat, Int.reduceLE, Int.reduceLT, mens, men]
    have hk0 : ¬ (1 + (nL nControl x0 : Nat) + (nL nEBigraph x1 : Nat) < (0 : Int)) := by omega
    simp only [hk0, List.length_map, cut_map, cut_mL, mL_length, ne_eq, not_true_eq_false, bne_self_eq_false, cBigraph, oBigraph, EVA, ↓reduceIte, Nat.reduceEqDiff, Nat.reduceMul, reduceCtorEq, Nat.reduceAdd, Nat.reduceSub, Nat.reduceLeDiff, Nat.reduceLT, Int.reduceToNat, Int.reduceLE, Int.reduceLT, mens, men]
    refine kca_intro (sem_eqBigraph (r0_ComposeAll x0 x1) (r0_ComposeAll x0 x1) (monoBigraph hr0_0)) ?_
    simp only [List.length_map, cut_map, cut_mL, mL_length, ne_eq, not_true_eq_false, bne_self_eq_false, cBigraph, oBigraph, EVA, ↓reduceIte, Nat.reduceEqDiff, Nat.reduceMul, reduceCtorEq, Nat.reduceAdd, Nat.reduceSub, Nat.reduceLeDiff, Nat.reduceLT, Int.reduceToNat, Int.reduceLE, Int.reduceLT, mens, men]
    simp only [arg1]
    refine kcy_markBigraph (x := (r0_ComposeAll x0 x1)) (by decide) (by decide) (by decide) (by decide) (by decide) (by decide) rfl rfl rfl rfl (by omega) (by omega) hr0_0 ?_
    simp only [List.length_map, cut_map, cut_mL, mL_length, ne_eq, not_true_eq_false, bne_self_eq_false, cBigraph, oBigraph, EVA, ↓reduceIte, Nat.reduceEqDiff, Nat.reduceMul, reduceCtorEq, Nat.reduceAdd, Nat.reduceSub, Nat.reduceLeDiff, Nat.reduceLT, Int.reduceToNat, Int.reduceLE, Int.reduceLT, mens, men]
    refine kca_intro (held_Bigraph (r0_ComposeAll x0 x1) (1) hr0_0 (by omega) (by omega)) ?_
    have hh0 : ¬ (1 + (nBigraph (r0_ComposeAll x0 x1) : Nat) < (0 : Int)) := by omega
    simp only [hh0, List.length_map, cut_map, cut_mL, mL_length, ne_eq, not_true_eq_false, bne_self_eq_false, cBigraph, oBigraph, EVA, ↓reduceIte, Nat.reduceEqDiff, Nat.reduceMul, reduceCtorEq, Nat.reduceAdd, Nat.reduceSub, Nat.reduceLeDiff, Nat.reduceLT, Int.reduceToNat, Int.reduceLE, Int.reduceLT, mens, men]
    refine kca_intro (sem_toControlS x0 hs0_0 hs0_1) ?_
    simp only [List.length_map, cut_map, cut_mL, mL_length, ne_eq, not_true_eq_false, bne_self_eq_false, cBigraph, oBigraph, EVA, ↓reduceIte, Nat.reduceEqDiff, Nat.reduceMul, reduceCtorEq, Nat.reduceAdd, Nat.reduceSub, Nat.reduceLeDiff, Nat.reduceLT, Int.reduceToNat, Int.reduceLE, Int.reduceLT, mens, men]
    refine kca_intro (sem_toBigraphS x1 hs1_0 hs1_1) ?_
    simp only [List.length_map, cut_map, cut_mL, mL_length, ne_eq, not_true_eq_false, bne_self_eq_false, cBigraph, oBigraph, EVA, ↓reduceIte, Nat.reduceEqDiff, Nat.reduceMul, reduceCtorEq, Nat.reduceAdd, Nat.reduceSub, Nat.reduceLeDiff, Nat.reduceLT, Int.reduceToNat, Int.reduceLE, Int.reduceLT, mens, men]
    refine kca_intro (sem_impl_ComposeAll x0 x1 hs0_0 hs0_1 hs1_0 hs1_1 hf1) ?_
    simp only [List.length_map, cut_map, cut_mL, mL_length, ne_eq, not_true_eq_false, bne_self_eq_false, cBigraph, oBigraph, EVA, ↓reduceIte, Nat.reduceEqDiff, Nat.reduceMul, reduceCtorEq, Nat.reduceAdd, Nat.reduceSub, Nat.reduceLeDiff, Nat.reduceLT, Int.reduceToNat, Int.reduceLE, Int.reduceLT, mens, men]
    refine kca_intro (sem_eqBigraph (r0_ComposeAll x0 x1) (r0_ComposeAll x0 x1) (monoBigraph hr0_0)) ?_
    simp only [List.length_map, cut_map, cut_mL, mL_length, ne_eq, not_true_eq_false, bne_self_eq_false, cBigraph, oBigraph, EVA, ↓reduceIte, Nat.reduceEqDiff, Nat.reduceMul, reduceCtorEq, Nat.reduceAdd, Nat.reduceSub, Nat.reduceLeDiff, Nat.reduceLT, Int.reduceToNat, Int.reduceLE, Int.reduceLT, mens, men]
    refine kca_intro (held_Bigraph (r0_ComposeAll x0 x1) (1) hr0_0 (by omega) (by omega)) ?_
    have hh0 : ¬ (1 + (nBigraph (r0_ComposeAll x0 x1) : Nat) < (0 : Int)) := by omega
    simp only [hh0, List.length_map, cut_map, cut_mL, mL_length, ne_eq, not_true_eq_false, bne_self_eq_false, cBigraph, oBigraph, EVA, ↓reduceIte, Nat.reduceEqDiff, Nat.reduceMul, reduceCtorEq, Nat.reduceAdd, Nat.reduceSub, Nat.reduceLeDiff, Nat.reduceLT, Int.reduceToNat, Int.reduceLE, Int.reduceLT, mens, men]
  · refine kca_intro (sem_spec_ComposeAll_n x0 x1 hs0_0 hs0_1 hs1_0 hs1_1 hf1 hB) ?_
    simp only [List.length_map, cut_map, cut_mL, mL_length, ne_eq, not_true_eq_false, bne_self_eq_false, cBigraph, oBigraph, EVA, ↓reduceIte, Nat.reduceEqDiff, Nat.reduceMul, reduceCtorEq, Nat.reduceAdd, Nat.reduceSub, Nat.reduceLeDiff, Nat.reduceLT, Int.reduceToNat, Int.reduceLE, Int.reduceLT, mens, men]
    refine kca_intro (sem_toControlS x0 hs0_0 hs0_1) ?_
    simp only [List.length_map, cut_map, cut_mL, mL_length, ne_eq, not_true_eq_false, bne_self_eq_false, cBigraph, oBigraph, EVA, ↓reduceIte, Nat.reduceEqDiff, Nat.reduceMul, reduceCtorEq, Nat.reduceAdd, Nat.reduceSub, Nat.reduceLeDiff, Nat.reduceLT, Int.reduceToNat, Int.reduceLE, Int.reduceLT, mens, men]
    refine kca_intro (sem_toBigraphS x1 hs1_0 hs1_1) ?_
    simp only [List.length_map, cut_map, cut_mL, mL_length, ne_eq, not_true_eq_false, bne_self_eq_false, cBigraph, oBigraph, EVA, ↓reduceIte, Nat.reduceEqDiff, Nat.reduceMul, reduceCtorEq, Nat.reduceAdd, Nat.reduceSub, Nat.reduceLeDiff, Nat.reduceLT, Int.reduceToNat, Int.reduceLE, Int.reduceLT, mens, men]
    refine kca_intro (sem_impl_ComposeAll x0 x1 hs0_0 hs0_1 hs1_0 hs1_1 hf1) ?_
    simp only [List.length_map, cut_map, cut_mL, mL_length, ne_eq, not_true_eq_false, bne_self_eq_false, cBigraph, oBigraph, EVA, ↓reduceIte, Nat.reduceEqDiff, Nat.reduceMul, reduceCtorEq, Nat.reduceAdd, Nat.reduceSub, Nat.reduceLeDiff, Nat.reduceLT, Int.reduceToNat, Int.reduceLE, Int.reduceLT, mens, men]
    obtain ⟨hr0_0, hrn⟩ := ok_ComposeAll x0 x1 hs0_0 hs0_1 hs1_0 hs1_1
    refine kca_intro (sem_eqBigraph (r0_ComposeAll x0 x1) (r0_ComposeAll x0 x1) (monoBigraph hr0_0)) ?_
    simp only [List.length_map, cut_map, cut_mL, mL_length, ne_eq, not_true_eq_false, bne_self_eq_false, cBigraph, oBigraph, EVA, ↓reduceIte, Nat.reduceEqDiff, Nat.reduceMul, reduceCtorEq, Nat.reduceAdd, Nat.reduceSub, Nat.reduceLeDiff, Nat.reduceLT, Int.reduceToNat, Int.reduceLE, Int.reduceLT, mens, men]
    refine kca_intro (sem_toControlS x0 hs0_0 hs0_1) ?_
    simp only [List.length_map, cut_map, cut_mL, mL_length, ne_eq, not_true_eq_false, bne_self_eq_false, cBigraph, oBigraph, EVA, ↓reduceIte, Nat.reduceEqDiff, Nat.reduceMul, reduceCtorEq, Nat.reduceAdd, Nat.reduceSub, Nat.reduceLeDiff, Nat.reduceLT, Int.reduceToNat, Int.reduceLE, Int.reduceLT, mens, men]
    refine kca_intro (sem_eqControlS x0 x0 hb0_0 hb0_1) ?_
    simp only [List.length_map, cut_map, cut_mL, mL_length, ne_eq, not_true_eq_false, bne_self_eq_false, cBigraph, oBigraph, EVA, ↓reduceIte, Nat.reduceEqDiff, Nat.reduceMul, reduceCtorEq, Nat.reduceAdd, Nat.reduceSub, Nat.reduceLeDiff, Nat.reduceLT, Int.reduceToNat, Int.reduceLE, Int.reduceLT, mens, men]
    refine kca_intro (sem_toBigraphS x1 hs1_0 hs1_1) ?_
    simp only [List.length_map, cut_map, cut_mL, mL_length, ne_eq, not_true_eq_false, bne_self_eq_false, cBigraph, oBigraph, EVA, ↓reduceIte, Nat.reduceEqDiff, Nat.reduceMul, reduceCtorEq, Nat.reduceAdd, Nat.reduceSub, Nat.reduceLeDiff, Nat.reduceLT, Int.reduceToNat, Int.reduceLE, Int.reduceLT, mens, men]
    refine kca_intro (sem_eqBigraphS x1 x1 hb1_0 hb1_1) ?_
    simp only [List.length_map, cut_map, cut_mL, mL_length, ne_eq, not_true_eq_false, bne_self_eq_false, cBigraph, oBigraph, EVA, ↓reduceIte, Nat.reduceEqDiff, Nat.reduceMul, reduceCtorEq, Nat.reduceAdd, Nat.reduceSub, Nat.reduceLeDiff, Nat.reduceLT, Int.reduceToNat, Int.reduceLE, Int.reduceLT, mens, men]
    simp only [arg1]
    refine kcy_mark1 mark_ControlS (a := x0) rfl (by omega) (by omega) hs0_0 hs0_1 ?_
    simp only [List.length_map, cut_map, cut_mL, mL_length, ne_eq, not_true_eq_false, bne_self_eq_false, cBigraph, oBigraph, EVA, ↓reduceIte, Nat.reduceEqDiff, Nat.reduceMul, reduceCtorEq, Nat.reduceAdd, Nat.reduceSub, Nat.reduceLeDiff, Nat.reduceLT, Int.reduceToNat, Int.reduceLE, Int.reduceLT, mens, men]
    simp only [arg1]
    refine kcy_mark1 mark_BigraphS (a := x1) rfl (by omega) (by omega) hs1_0 hs1_1 ?_
    simp only [List.length_map, cut_map, cut_mL, mL_length, ne_eq, not_true_eq_false, bne_self_eq_false, cBigraph, oBigraph, EVA, ↓reduceIte, Nat.reduceEqDiff, Nat.reduceMul, reduceCtorEq, Nat.reduceAdd, Nat.reduceSub, Nat.reduceLeDiff, Nat.reduceLT, Int.reduceToNat, Int.reduceLE, Int.reduceLT, mens, men]
    have hk0 : ¬ (1 + (nL nControl x0 : Nat) + (nL nEBigraph x1 : Nat) < (0 : Int)) := by omega
    simp only [hk0, List.length_map, cut_map, cut_mL, mL_length, ne_eq, not_true_eq_false, bne_self_eq_false, cBigraph, oBigraph, EVA, ↓reduceIte, Nat.reduceEqDiff, Nat.reduceMul, reduceCtorEq, Nat.reduceAdd, Nat.reduceSub, Nat.reduceLeDiff, Nat.reduceLT, Int.reduceToNat, Int.reduceLE, Int.reduceLT, mens, men]
    refine kca_intro (sem_eqBigraph (r0_ComposeAll x0 x1) (r0_ComposeAll x0 x1) (monoBigraph hr0_0)) ?_
    simp only [List.length_map, cut_map, cut_mL, mL_length, ne_eq, not_true_eq_false, bne_self_eq_false, cBigraph, oBigraph, EVA, ↓reduceIte, Nat.reduceEqDiff, Nat.reduceMul, reduceCtorEq, Nat.reduceAdd, Nat.reduceSub, Nat.reduceLeDiff, Nat.reduceLT, Int.reduceToNat, Int.reduceLE, Int.reduceLT, mens, men]
    simp only [arg1]
    refine kcy_markBigraph (x := (r0_ComposeAll x0 x1)) (by decide) (by decide) (by decide) (by decide) (by decide) (by decide) rfl rfl rfl rfl (by omega) (by omega) hr0_0 ?_
    simp only [List.length_map, cut_map, cut_mL, mL_length, ne_eq, not_true_eq_false, bne_self_eq_false, cBigraph, oBigraph, EVA, ↓reduceIte, Nat.reduceEqDiff, Nat.reduceMul, reduceCtorEq, Nat.reduceAdd, Nat.reduceSub, Nat.reduceLeDiff, Nat.reduceLT, Int.reduceToNat, Int.reduceLE, Int.reduceLT, mens, men]
    refine kca_intro (held_Bigraph (r0_ComposeAll x0 x1) (1) hr0_0 (by omega) (by omega)) ?_
    have hh0 : ¬ (1 + (nBigraph (r0_ComposeAll x0 x1) : Nat) < (0 : Int)) := by omega
    simp only [hh0, List.length_map, cut_map, cut_mL, mL_length, ne_eq, not_true_eq_false, bne_self_eq_false, cBigraph, oBigraph, EVA, ↓reduceIte, Nat.reduceEqDiff, Nat.reduceMul, reduceCtorEq, Nat.reduceAdd, Nat.reduceSub, Nat.reduceLeDiff, Nat.reduceLT, Int.reduceToNat, Int.reduceLE, Int.reduceLT, mens, men]
    refine kca_intro (sem_toControlS x0 hs0_0 hs0_1) ?_
    simp only [List.length_map, cut_map, cut_mL, mL_length, ne_eq, not_true_eq_false, bne_self_eq_false, cBigraph, oBigraph, EVA, ↓reduceIte, Nat.reduceEqDiff, Nat.reduceMul, reduceCtorEq, Nat.reduceAdd, Nat.reduceSub, Nat.reduceLeDiff, Nat.reduceLT, Int.reduceToNat, Int.reduceLE, Int.reduceLT, mens, men]
    refine kca_intro (sem_toBigraphS x1 hs1_0 hs1_1) ?_
    simp only [List.length_map, cut_map, cut_mL, mL_length, ne_eq, not_true_eq_false, bne_self_eq_false, cBigraph, oBigraph, EVA, ↓reduceIte, Nat.reduceEqDiff, Nat.reduceMul, reduceCtorEq, Nat.reduceAdd, Nat.reduceSub, Nat.reduceLeDiff, Nat.reduceLT, Int.reduceToNat, Int.reduceLE, Int.reduceLT, mens, men]
    refine kca_intro (sem_impl_ComposeAll x0 x1 hs0_0 hs0_1 hs1_0 hs1_1 hf1) ?_
    simp only [List.length_map, cut_map, cut_mL, mL_length, ne_eq, not_true_eq_false, bne_self_eq_false, cBigraph, oBigraph, EVA, ↓reduceIte, Nat.reduceEqDiff, Nat.reduceMul, reduceCtorEq, Nat.reduceAdd, Nat.reduceSub, Nat.reduceLeDiff, Nat.reduceLT, Int.reduceToNat, Int.reduceLE, Int.reduceLT, mens, men]
    refine kca_intro (sem_eqBigraph (r0_ComposeAll x0 x1) (r0_ComposeAll x0 x1) (monoBigraph hr0_0)) ?_
    simp only [List.length_map, cut_map, cut_mL, mL_length, ne_eq, not_true_eq_false, bne_self_eq_false, cBigraph, oBigraph, EVA, ↓reduceIte, Nat.reduceEqDiff, Nat.reduceMul, reduceCtorEq, Nat.reduceAdd, Nat.reduceSub, Nat.reduceLeDiff, Nat.reduceLT, Int.reduceToNat, Int.reduceLE, Int.reduceLT, mens, men]
    refine kca_intro (held_Bigraph (r0_ComposeAll x0 x1) (1) hr0_0 (by omega) (by omega)) ?_
    have hh0 : ¬ (1 + (nBigraph (r0_ComposeAll x0 x1) : Nat) < (0 : Int)) := by omega
    simp only [hh0, List.length_map, cut_map, cut_mL, mL_length, ne_eq, not_true_eq_false, bne_self_eq_false, cBigraph, oBigraph, EVA, ↓reduceIte, Nat.reduceEqDiff, Nat.reduceMul, reduceCtorEq, Nat.reduceAdd, Nat.reduceSub, Nat.reduceLeDiff, Nat.reduceLT, Int.reduceToNat, Int.reduceLE, Int.reduceLT, mens, men]
end Go.Fd

namespace Go.Fd
set_option maxRecDepth 20000
theorem rd_9 : Reads Go.Proofs.Tryz.prog 9 (fun n : ByteArray => [ts n]) (fun n => n.size ≤ 9223372036854775807) := Reads_string Go.Proofs.Tryz.underlying9
theorem rd_3 : Reads Go.Proofs.Tryz.prog 3 (fun n : Int => [tv n]) (fits .i64) := Reads_int Go.Proofs.Tryz.underlying3
theorem rd_57 : Reads Go.Proofs.Tryz.prog 57 cControl (fun x => bdControl 9223372036854775807 x ∧ ftControl x) := Reads_mp (Reads_struct Go.Proofs.Tryz.underlying57 (show ReadsP Go.Proofs.Tryz.prog 0 [(0, 9), (1, 3), (2, 3)] _ _ from (ReadsP_cons (k := 1) (by kernel_rfl) (fun _ => rfl) rd_9 (ReadsP_cons (k := 1) (by kernel_rfl) (fun _ => rfl) rd_3 (ReadsP_cons (k := 1) (by kernel_rfl) (fun _ => rfl) rd_3 ReadsP_nil))))) (fun p => TControl.mk p.1 p.2.1 p.2.2.1) (fun _ => rfl) (fun x h => ⟨h.1, ⟨h.2.1, h.2.2.1⟩⟩)
theorem rd_22 : Reads Go.Proofs.Tryz.prog 22 (fun l : List TControl => [Tr.sl (l.map cControl)]) (fun l => l.length ≤ 9223372036854775807 ∧ ∀ x ∈ l, (fun x => bdControl 9223372036854775807 x ∧ ftControl x) x) := Reads_slice (k := 2) Go.Proofs.Tryz.underlying22 (by kernel_rfl) (fun _ => rfl) rd_57
theorem rd_24 : Reads Go.Proofs.Tryz.prog 24 (fun l : List Int => [Tr.sl (l.map (fun n : Int => [tv n]))]) (fun l => l.length ≤ 9223372036854775807 ∧ ∀ x ∈ l, (fits .i64) x) := Reads_slice (k := 0) Go.Proofs.Tryz.underlying24 (by kernel_rfl) (fun _ => rfl) rd_3
theorem rd_99 : Reads Go.Proofs.Tryz.prog 99 cNode (fun x => bdNode 9223372036854775807 x ∧ ftNode x) := Reads_mp (Reads_struct Go.Proofs.Tryz.underlying99 (show ReadsP Go.Proofs.Tryz.prog 0 [(0, 3), (1, 3), (2, 24)] _ _ from (ReadsP_cons (k := 1) (by kernel_rfl) (fun _ => rfl) rd_3 (ReadsP_cons (k := 1) (by kernel_rfl) (fun _ => rfl) rd_3 (ReadsP_cons (k := 1) (by kernel_rfl) (fun _ => rfl) rd_24 ReadsP_nil))))) (fun p => TNode.mk p.1 p.2.1 p.2.2.1) (fun _ => rfl) (fun x h => ⟨h.2.2.1.1, ⟨h.1, h.2.1, (fun y hy => (h.2.2.1.2 y hy))⟩⟩)
theorem rd_23 : Reads Go.Proofs.Tryz.prog 23 (fun l : List TNode => [Tr.sl (l.map cNode)]) (fun l => l.length ≤ 9223372036854775807 ∧ ∀ x ∈ l, (fun x => bdNode 9223372036854775807 x ∧ ftNode x) x) := Reads_slice (k := 2) Go.Proofs.Tryz.underlying23 (by kernel_rfl) (fun _ => rfl) rd_99
theorem rd_25 : Reads Go.Proofs.Tryz.prog 25 (fun l : List ByteArray => [Tr.sl (l.map (fun n : ByteArray => [ts n]))]) (fun l => l.length ≤ 9223372036854775807 ∧ ∀ x ∈ l, (fun n => n.size ≤ 9223372036854775807) x) := Reads_slice (k := 0) Go.Proofs.Tryz.underlying25 (by kernel_rfl) (fun _ => rfl) rd_9
theorem rd_102 : Reads Go.Proofs.Tryz.prog 102 cWire (fun x => bdWire 9223372036854775807 x ∧ ftWire x) := Reads_mp (Reads_struct Go.Proofs.Tryz.underlying102 (show ReadsP Go.Proofs.Tryz.prog 0 [(0, 9), (1, 3)] _ _ from (ReadsP_cons (k := 1) (by kernel_rfl) (fun _ => rfl) rd_9 (ReadsP_cons (k := 1) (by kernel_rfl) (fun _ => rfl) rd_3 ReadsP_nil)))) (fun p => TWire.mk p.1 p.2.1) (fun _ => rfl) (fun x h => ⟨h.1, h.2.1⟩)
theorem rd_26 : Reads Go.Proofs.Tryz.prog 26 (fun l : List TWire => [Tr.sl (l.map cWire)]) (fun l => l.length ≤ 9223372036854775807 ∧ ∀ x ∈ l, (fun x => bdWire 9223372036854775807 x ∧ ftWire x) x) := Reads_slice (k := 1) Go.Proofs.Tryz.underlying26 (by kernel_rfl) (fun _ => rfl) rd_102
theorem rd_28 : Reads Go.Proofs.Tryz.prog 28 cBigraph (fun x => bdBigraph 9223372036854775807 x ∧ ftBigraph x) := Reads_mp (Reads_struct Go.Proofs.Tryz.underlying28 (show ReadsP Go.Proofs.Tryz.prog 0 [(0, 3), (1, 23), (2, 24), (3, 3), (4, 25), (5, 26)] _ _ from (ReadsP_cons (k := 1) (by kernel_rfl) (fun _ => rfl) rd_3 (ReadsP_cons (k := 1) (by kernel_rfl) (fun _ => rfl) rd_23 (ReadsP_cons (k := 1) (by kernel_rfl) (fun _ => rfl) rd_24 (ReadsP_cons (k := 1) (by kernel_rfl) (fun _ => rfl) rd_3 (ReadsP_cons (k := 1) (by kernel_rfl) (fun _ => rfl) rd_25 (ReadsP_cons (k := 1) (by kernel_rfl) (fun _ => rfl) rd_26 ReadsP_nil)))))))) (fun p => TBigraph.mk p.1 p.2.1 p.2.2.1 p.2.2.2.1 p.2.2.2.2.1 p.2.2.2.2.2.1) (fun _ => rfl) (fun x h => ⟨⟨h.2.1.1, (fun y hy => (h.2.1.2 y hy).1), h.2.2.1.1, h.2.2.2.2.1.1, (fun y hy => (h.2.2.2.2.1.2 y hy)), h.2.2.2.2.2.1.1, (fun y hy => (h.2.2.2.2.2.1.2 y hy).1)⟩, ⟨h.1, (fun y hy => (h.2.1.2 y hy).2), (fun y hy => (h.2.2.1.2 y hy)), h.2.2.2.1, (fun y hy => (h.2.2.2.2.2.1.2 y hy).2)⟩⟩)
theorem rd_47 : Reads Go.Proofs.Tryz.prog 47 (fun l : List TBigraph => [Tr.sl (l.map cBigraph)]) (fun l => l.length ≤ 9223372036854775807 ∧ ∀ x ∈ l, (fun x => bdBigraph 9223372036854775807 x ∧ ftBigraph x) x) := Reads_slice (k := 5) Go.Proofs.Tryz.underlying47 (by kernel_rfl) (fun _ => rfl) rd_28
end Go.Fd
