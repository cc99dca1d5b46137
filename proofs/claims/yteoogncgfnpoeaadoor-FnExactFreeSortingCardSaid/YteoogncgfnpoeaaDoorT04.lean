/-
  FOUNDATION 49: rows at a path; functions that mark what they are handed. Own work.
-/
import Derived.Test.YteoogncgfnpoeaaDoorT03
import Derived.Test.YteoogncgfnpoeaaDoorProg
import Derived.KernelRfl
import Derived.Shelf.Strings.SlTrimAscii
namespace Go.Fd

/-- The slice at path p becomes r. -/
def putp : Row → Pth → Row → Row
  | _, [], r => r
  | es, (a, b) :: p, r =>
    match es[a]? with
    | some e =>
      match e[b]? with
      | some (.sl es') => es.set a (e.set b (.sl (putp es' p r)))
      | _ => es
    | none => es

theorem pgetp_cons {es es' : Row} {a b : Nat} {p : Pth} {e : List Tr} (h1 : es[a]? = some e) (h2 : e[b]? = some (.sl es')) : getp es ((a, b) :: p) = getp es' p := by
  simp only [getp, h1, h2]
theorem putp_cons {es es' : Row} {a b : Nat} {p : Pth} {e : List Tr} {r : Row} (h1 : es[a]? = some e) (h2 : e[b]? = some (.sl es')) : putp es ((a, b) :: p) r = es.set a (e.set b (.sl (putp es' p r))) := by
  simp only [putp, h1, h2]
theorem psetp_cons {es es' : Row} {a b i f : Nat} {p : Pth} {e : List Tr} {t : Tr} (h1 : es[a]? = some e) (h2 : e[b]? = some (.sl es')) : setp es ((a, b) :: p) i f t = es.set a (e.set b (.sl (setp es' p i f t))) := by
  simp only [setp, h1, h2]
theorem getp_inv {es r0 : Row} {a b : Nat} {p : Pth} (h : getp es ((a, b) :: p) = some r0) : ∃ e es', es[a]? = some e ∧ e[b]? = some (.sl es') ∧ getp es' p = some r0 := by
  simp only [getp] at h
  cases h1 : es[a]? with
  | none => rw [h1] at h; cases h
  | some e =>
    rw [h1] at h
    cases h2 : e[b]? with
    | none => simp only [h2] at h; cases h
    | some t =>
      simp only [h2] at h
      cases t with
      | v x => cases h
      | sl es' => exact ⟨e, es', rfl, h2, h⟩
theorem pset_get {α : Type} {l : List α} {a : Nat} {x y : α} (h : l[a]? = some x) : (l.set a y)[a]? = some y := by
  rw [List.getElem?_set_self]; exact (List.getElem?_eq_some_iff.1 h).1

theorem getp_putp {r : Row} : ∀ {p : Pth} {es r0 : Row}, getp es p = some r0 → getp (putp es p r) p = some r
  | [], _, _, _ => rfl
  | (a, b) :: p, es, r0, h => by
    obtain ⟨e, es', h1, h2, h3⟩ := getp_inv h
    rw [putp_cons h1 h2, pgetp_cons (pset_get h1) (pset_get h2)]
    exact getp_putp h3
theorem putp_putp {r s : Row} : ∀ {p : Pth} {es r0 : Row}, getp es p = some r0 → putp (putp es p r) p s = putp es p s
  | [], _, _, _ => rfl
  | (a, b) :: p, es, r0, h => by
    obtain ⟨e, es', h1, h2, h3⟩ := getp_inv h
    rw [putp_cons h1 h2, putp_cons h1 h2, putp_cons (pset_get h1) (pset_get h2), putp_putp h3, List.set_set, List.set_set]
theorem setp_putp {r : Row} {i f : Nat} {t : Tr} {e0 : List Tr} (hi : r[i]? = some e0) : ∀ {p : Pth} {es r0 : Row}, getp es p = some r0 → setp (putp es p r) p i f t = putp es p (r.set i (e0.set f t))
  | [], es, _, _ => by simp only [putp, setp, hi]
  | (a, b) :: p, es, r0, h => by
    obtain ⟨e, es', h1, h2, h3⟩ := getp_inv h
    rw [putp_cons h1 h2, putp_cons h1 h2, psetp_cons (pset_get h1) (pset_get h2), setp_putp hi h3, List.set_set, List.set_set]
theorem pgetp_app {q : Pth} : ∀ {p : Pth} {es r0 : Row}, getp es p = some r0 → getp es (p ++ q) = getp r0 q
  | [], es, r0, h => by simp only [getp, Option.some.injEq] at h; subst h; rfl
  | (a, b) :: p, es, r0, h => by
    obtain ⟨e, es', h1, h2, h3⟩ := getp_inv h
    rw [List.cons_append, pgetp_cons h1 h2]
    exact pgetp_app h3
theorem putp_app {q : Pth} {z : Row} : ∀ {p : Pth} {es r0 : Row}, getp es p = some r0 → putp es (p ++ q) z = putp es p (putp r0 q z)
  | [], es, r0, h => by simp only [getp, Option.some.injEq] at h; subst h; rfl
  | (a, b) :: p, es, r0, h => by
    obtain ⟨e, es', h1, h2, h3⟩ := getp_inv h
    rw [List.cons_append, putp_cons h1 h2, putp_cons h1 h2, putp_app h3]
theorem set_self {α : Type} {l : List α} {a : Nat} {x : α} (h : l[a]? = some x) : l.set a x = l := by
  obtain ⟨h1, h2⟩ := List.getElem?_eq_some_iff.1 h
  rw [← h2, List.set_getElem_self]
theorem putp_self : ∀ {p : Pth} {es r : Row}, getp es p = some r → putp es p r = es
  | [], es, r, h => by simp only [getp, Option.some.injEq] at h; subst h; rfl
  | (a, b) :: p, es, r, h => by
    obtain ⟨e, es', h1, h2, h3⟩ := getp_inv h
    rw [putp_cons h1 h2, putp_self h3, set_self h2, set_self h1]

theorem psset_sset {S : Sto} {id : Oid} {a b : Ob} : sset (sset S id a) id b = sset S id b := by
  funext i
  unfold sset
  split <;> rfl
theorem sset_self {S : Sto} {id : Oid} {a : Ob} (h : S id = some a) : sset S id a = S := by
  funext i
  unfold sset
  split
  · rename_i e; rw [e, h]
  · rfl
theorem packS_sset {lvl : Nat} {loc : List (Nat × Ob)} {S : Sto} {id : Oid} {o : Ob} (h : id.1 ≠ lvl) : packS lvl loc (sset S id o) = sset (packS lvl loc S) id o := by
  funext i
  by_cases e : i = id
  · subst e
    rw [r_packo h]
    unfold sset
    rw [if_pos rfl, if_pos rfl]
  · unfold sset packS
    simp only [if_neg e]

/-! ## marking -/
section mark
variable {α : Type} (m : α → Int → α) (n : α → Nat)
def mL : List α → Int → List α
  | [], _ => []
  | x :: r, k => m x k :: mL r (k + n x)
def nL : List α → Nat
  | [] => 0
  | x :: r => n x + nL r
theorem mL_length : ∀ (a : List α) (k : Int), (mL m n a k).length = a.length
  | [], _ => rfl
  | x :: r, k => by simp only [mL, List.length_cons, mL_length r]
theorem nL_append : ∀ (a b : List α), nL n (a ++ b) = nL n a + nL n b
  | [], b => by simp [nL]
  | x :: r, b => by simp only [List.cons_append, nL, nL_append r b]; omega
theorem mL_append : ∀ (a b : List α) (k : Int), mL m n (a ++ b) k = mL m n a k ++ mL m n b (k + nL n a)
  | [], b, k => by simp [mL, nL]
  | x :: r, b, k => by
    simp only [List.cons_append, mL, nL, mL_append r b]
    rw [show k + (n x : Int) + (nL n r : Int) = k + ((n x + nL n r : Nat) : Int) from by omega]
/-- The number, and the list, when j elements have been marked. -/
def kJ (a : List α) (k : Int) (j : Nat) : Int := k + nL n (a.take j)
def lJ (a : List α) (k : Int) (j : Nat) : List α := mL m n (a.take j) k ++ a.drop j
theorem kJ_zero {a : List α} {k : Int} : kJ n a k 0 = k := by simp [kJ, nL]
theorem lJ_zero {a : List α} {k : Int} : lJ m n a k 0 = a := by simp [lJ, mL]
theorem kJ_all {a : List α} {k : Int} : kJ n a k a.length = k + nL n a := by simp [kJ]
theorem lJ_all {a : List α} {k : Int} : lJ m n a k a.length = mL m n a k := by simp [lJ]
theorem kJ_succ {a : List α} {k : Int} {j : Nat} (h : j < a.length) : kJ n a k (j + 1) = kJ n a k j + n a[j] := by
  unfold kJ
  rw [List.take_succ_eq_append_getElem h, nL_append]
  simp only [nL]
  omega
theorem kJ_le {a : List α} {k : Int} {j : Nat} : kJ n a k j ≤ k + nL n a := by
  have : nL n a = nL n (a.take j) + nL n (a.drop j) := by rw [← nL_append, List.take_append_drop]
  unfold kJ
  omega
theorem kJ_ge {a : List α} {k : Int} {j : Nat} : k ≤ kJ n a k j := by unfold kJ; omega
theorem lJ_len {a : List α} {k : Int} {j : Nat} : (lJ m n a k j).length = a.length := by
  unfold lJ
  rw [List.length_append, mL_length, List.length_take, List.length_drop]
  omega
theorem lJ_get {a : List α} {k : Int} {j : Nat} (h : j < a.length) : (lJ m n a k j)[j]? = some a[j] := by
  unfold lJ
  have h1 : (mL m n (a.take j) k).length = j := by rw [mL_length, List.length_take]; omega
  rw [List.getElem?_append_right (by omega), h1, Nat.sub_self, List.getElem?_drop, Nat.add_zero, List.getElem?_eq_getElem h]
theorem lJ_set {a : List α} {k : Int} {j : Nat} (h : j < a.length) : (lJ m n a k j).set j (m a[j] (kJ n a k j)) = lJ m n a k (j + 1) := by
  unfold lJ
  have h1 : (mL m n (a.take j) k).length = j := by rw [mL_length, List.length_take]; omega
  rw [List.set_append_right _ _ (by omega), h1, Nat.sub_self, List.drop_eq_getElem_cons h, List.set_cons_zero, List.take_succ_eq_append_getElem h, mL_append]
  simp only [mL, kJ, List.append_assoc, List.cons_append, List.nil_append]
theorem lJ_row (c : α → List Tr) {a : List α} {k : Int} {j : Nat} (h : j < a.length) : ∃ R : Row, j < R.length ∧ (lJ m n a k j).map c = R.set j (c a[j]) ∧ (lJ m n a k (j + 1)).map c = R.set j (c (m a[j] (kJ n a k j))) := by
  refine ⟨(lJ m n a k j).map c, by rw [List.length_map, lJ_len]; exact h, ?_, ?_⟩
  · refine (set_self ?_).symm
    rw [List.getElem?_map, lJ_get m n h]; rfl
  · rw [← lJ_set m n h, List.map_set]
end mark
theorem rset_get {R : Row} {j : Nat} (h : j < R.length) (e : List Tr) : (R.set j e)[j]? = some e := List.getElem?_set_self h
theorem setp_row {es r0 : Row} {p : Pth} {R : Row} {j : Nat} (hv : getp es p = some r0) (h : j < R.length) (e : List Tr) (f : Nat) (t : Tr) : setp (putp es p (R.set j e)) p j f t = putp es p (R.set j (e.set f t)) := by
  rw [setp_putp (rset_get h e) hv, List.set_set]

/-- A function that marks the slice that it is handed, and answers the next number. -/
def MarkS (P : Program) (fid : FuncId) {α : Type} (c : α → List Tr) (m : α → Int → α) (n : α → Nat) (B : α → Prop) : Prop :=
  ∀ (a : List α) (k : Int) (lvl : Nat) (S : Sto) (id : Oid) (p : Pth) (es r0 : Row) (kk hw ver st : Nat) (cap : Option Nat), id.1 < lvl → getp es p = some r0 → stamp p st hw ver true → 0 ≤ k → k + nL n a ≤ 4611686018427387904 →
    a.length ≤ 4294967296 → (∀ x ∈ a, B x) → Sem P fid lvl [.hd id p 0 a.length cap st, iI k] (sset S id (.ar kk (putp es p (a.map c)) true hw ver)) (iI (k + nL n a)) (sset S id (.ar kk (putp es p ((mL m n a k).map c)) true hw ver))
/-- The same for a slice in a cell of a slice. -/
theorem MarkS.nested {P : Program} {fid : FuncId} {α : Type} {c : α → List Tr} {m : α → Int → α} {n : α → Nat} {B : α → Prop} (hm : MarkS P fid c m n B) {a : List α} {k : Int} {lvl : Nat} {S : Sto} {id : Oid} {p : Pth} {es r0 : Row} {kk hw ver j f : Nat} {R : Row} {e : List Tr}
    (hid : id.1 < lvl) (hv : getp es p = some r0) (h0 : 0 ≤ k) (h1 : k + nL n a ≤ 4611686018427387904) (hl : a.length ≤ 4294967296) (hB : ∀ x ∈ a, B x) (hj : j < R.length) (he : e[f]? = some (.sl (a.map c))) :
    Sem P fid lvl [.hd id (p ++ [(j, f)]) 0 a.length none ver, iI k] (sset S id (.ar kk (putp es p (R.set j e)) true hw ver)) (iI (k + nL n a)) (sset S id (.ar kk (putp es p (R.set j (e.set f (.sl ((mL m n a k).map c))))) true hw ver)) := by
  have hR : (R.set j e)[j]? = some e := by rw [List.getElem?_set_self hj]
  have g1 : getp (putp es p (R.set j e)) p = some (R.set j e) := getp_putp hv
  have g2 : getp (putp es p (R.set j e)) (p ++ [(j, f)]) = some (a.map c) := by
    rw [pgetp_app g1, pgetp_cons hR he]; rfl
  have := hm a k lvl S id (p ++ [(j, f)]) (putp es p (R.set j e)) _ kk hw ver ver none hid g2 (by cases p <;> exact ⟨rfl, rfl⟩) h0 h1 hl hB
  rw [putp_self g2, putp_app g1, putp_putp hv, putp_cons hR he] at this
  simp only [putp, List.set_set] at this
  exact this
theorem kcy_mark {P : Program} {fid : FuncId} {α : Type} {c : α → List Tr} {m : α → Int → α} {n : α → Nat} {B : α → Prop} (hm : MarkS P fid c m n B) {a : List α} {k : Int} {lvl len : Nat} {S : Sto} {id : Oid} {p : Pth} {es r0 : Row} {kk hw ver j f : Nat} {R : Row} {e : List Tr} {env : List (Nat × IV)} {loc : List (Nat × Ob)} {d : Option Nat} {K : St → Prop}
    (hid : id.1 < lvl) (hv : getp es p = some r0) (h0 : 0 ≤ k) (h1 : k + nL n a ≤ 4611686018427387904) (hl : a.length ≤ 4294967296) (hB : ∀ x ∈ a, B x) (hj : j < R.length) (he : e[f]? = some (.sl (a.map c))) (hlen : len = a.length)
    (hk : K ⟨lvl, ptd d (iI (k + nL n a)) env, loc, sset S id (.ar kk (putp es p (R.set j (e.set f (.sl ((mL m n a k).map c))))) true hw ver)⟩) :
    kcy (Sem P) fid true lvl env loc (sset S id (.ar kk (putp es p (R.set j e)) true hw ver)) d K [.hd id (p ++ [(j, f)]) 0 len none ver, iI k] := by
  subst hlen
  have hne : id.1 ≠ lvl := by omega
  refine kcy_intro (r := iI (k + nL n a)) loc (sset S id (.ar kk (putp es p (R.set j (e.set f (.sl ((mL m n a k).map c))))) true hw ver)) ?_ ?_ ⟨?_, hk⟩
  · intro i hi
    have : i ≠ id := fun e => hne (by rw [← e]; exact hi)
    unfold sset
    rw [if_neg this, if_neg this]
  · rw [packS_sset hne, packS_sset hne]
    exact hm.nested (Nat.lt_succ_of_lt hid) hv h0 h1 hl hB hj he
  · trivial
theorem packS_ptO {lvl key : Nat} {loc : List (Nat × Ob)} {out : Sto} {o : Ob} : packS lvl (ptO key o loc) out = sset (packS lvl loc out) (lvl, key) o := by
  funext i
  unfold packS sset
  by_cases h : i.1 = lvl
  · rw [if_pos h, lkO_ptO]
    by_cases h2 : i.2 = key
    · have : i = (lvl, key) := by obtain ⟨a, b⟩ := i; simp only at h h2; rw [h, h2]
      rw [if_pos h2, if_pos this]
    · have : ¬ i = (lvl, key) := fun e => h2 (by rw [e])
      rw [if_neg h2, if_neg this]
      exact (if_pos h).symm
  · have : ¬ i = (lvl, key) := fun e => h (by rw [e])
    rw [if_neg h, if_neg this]
    exact (if_neg h).symm
/-- A whole slice of an elder call's is marked. -/
theorem kcy_mark0 {P : Program} {fid : FuncId} {α : Type} {c : α → List Tr} {m : α → Int → α} {n : α → Nat} {B : α → Prop} (hm : MarkS P fid c m n B) {a : List α} {k : Int} {lvl : Nat} {out : Sto} {id : Oid} {kk hw ver : Nat} {cap : Option Nat} {env : List (Nat × IV)} {loc : List (Nat × Ob)} {d : Option Nat} {K : St → Prop}
    (hid : id.1 < lvl) (hS : out id = some (.ar kk (a.map c) true hw ver)) (h0 : 0 ≤ k) (h1 : k + nL n a ≤ 4611686018427387904) (hl : a.length ≤ 4294967296) (hB : ∀ x ∈ a, B x)
    (hk : K ⟨lvl, ptd d (iI (k + nL n a)) env, loc, sset out id (.ar kk ((mL m n a k).map c) true hw ver)⟩) :
    kcy (Sem P) fid true lvl env loc out d K [.hd id [] 0 a.length cap hw, iI k] := by
  have hne : id.1 ≠ lvl := by omega
  refine kcy_intro (r := iI (k + nL n a)) loc (sset out id (.ar kk ((mL m n a k).map c) true hw ver)) ?_ ?_ ⟨?_, hk⟩
  · intro i hi
    have : i ≠ id := fun e => hne (by rw [← e]; exact hi)
    unfold sset
    rw [if_neg this]
  · rw [packS_sset hne]
    have e : packS lvl loc out = sset (packS lvl loc out) id (.ar kk (putp (a.map c) [] (a.map c)) true hw ver) := (sset_self (by rw [r_packo hne]; exact hS)).symm
    have := hm a k (lvl + 1) (packS lvl loc out) id [] (a.map c) (a.map c) kk hw ver hw cap (Nat.lt_succ_of_lt hid) rfl rfl h0 h1 hl hB
    rw [← e] at this
    exact this
  · trivial
/-- The same for a slice of the call's own. -/
theorem kcy_mark1 {P : Program} {fid : FuncId} {α : Type} {c : α → List Tr} {m : α → Int → α} {n : α → Nat} {B : α → Prop} (hm : MarkS P fid c m n B) {a : List α} {k : Int} {lvl key : Nat} {out : Sto} {kk hw ver : Nat} {cap : Option Nat} {env : List (Nat × IV)} {loc : List (Nat × Ob)} {d : Option Nat} {K : St → Prop}
    (hS : lkO key loc = some (.ar kk (a.map c) true hw ver)) (h0 : 0 ≤ k) (h1 : k + nL n a ≤ 4611686018427387904) (hl : a.length ≤ 4294967296) (hB : ∀ x ∈ a, B x)
    (hk : K ⟨lvl, ptd d (iI (k + nL n a)) env, ptO key (.ar kk ((mL m n a k).map c) true hw ver) loc, out⟩) :
    kcy (Sem P) fid true lvl env loc out d K [.hd (lvl, key) [] 0 a.length cap hw, iI k] := by
  refine kcy_intro (r := iI (k + nL n a)) (ptO key (.ar kk ((mL m n a k).map c) true hw ver) loc) out (fun _ _ => rfl) ?_ ⟨?_, hk⟩
  · rw [packS_ptO]
    have e : packS lvl loc out = sset (packS lvl loc out) (lvl, key) (.ar kk (putp (a.map c) [] (a.map c)) true hw ver) := (sset_self (by unfold packS; rw [if_pos rfl]; exact hS)).symm
    have := hm a k (lvl + 1) (packS lvl loc out) (lvl, key) [] (a.map c) (a.map c) kk hw ver hw cap (Nat.lt_succ_self _) rfl rfl h0 h1 hl hB
    rw [← e] at this
    exact this
  · trivial
end Go.Fd

/-
  HOW MANY MARKS A THING TAKES, AGAINST ITS SIZE. Own work.
-/
namespace Go.Fd
/-- On, if something is left. -/
def szTh (l : Int) (g : Int → Int) : Int := if l < 0 then -1 else g l
def Zq (c : Int) (s : Int → Int) (q : Nat) : Prop := ∀ l : Int, 0 ≤ l → l ≤ 1048576 → s l ≤ l ∧ (0 ≤ s l → (q : Int) ≤ c + 256 * (l - s l))
theorem Zq_id : Zq 0 (fun l => l) 0 := fun l _ _ => ⟨Int.le_refl _, fun _ => by simp only; omega⟩
theorem Zq_th {c e : Int} {s g : Int → Int} {q r : Nat} (hc : 0 ≤ c) (he : 0 ≤ e) (hs : Zq c s q) (hg : Zq e g r) : Zq (c + e) (fun l => szTh (s l) g) (q + r) := fun l h0 h1 => by
  have a := hs l h0 h1
  by_cases h : s l < 0
  · simp only [szTh, if_pos h]
    exact ⟨by omega, fun h => by omega⟩
  · simp only [szTh, if_neg h]
    have b := hg (s l) (by omega) (by omega)
    refine ⟨by omega, fun h2 => ?_⟩
    have := a.2 (by omega)
    have := b.2 h2
    omega
theorem Zq_str (n : Nat) : Zq 0 (fun l => l - n) 0 := fun l h0 h1 => ⟨by simp only; omega, fun h => by simp only at h ⊢; omega⟩
theorem Zq_F {α : Type} {f : α → Int → Int} {n : α → Nat} (hf : ∀ x, Zq 256 (f x) (n x)) : ∀ (a : List α), Zq (256 * a.length) (fun l => szF f a l) (nL n a)
  | [] => fun l _ _ => ⟨Int.le_refl l, fun _ => by simp only [szF, nL, List.length_nil]; omega⟩
  | x :: r => fun l h0 h1 => by
    simp only [szF, nL, List.length_cons]
    have a := hf x l h0 h1
    split
    · exact ⟨by omega, fun h => by omega⟩
    · have b := Zq_F hf r (f x l) (by omega) (by omega)
      simp only at b
      refine ⟨by omega, fun h => ?_⟩
      have := a.2 (by omega)
      have := b.2 h
      omega
theorem Zq_L {α : Type} {f : α → Int → Int} {n : α → Nat} (hf : ∀ x, Zq 256 (f x) (n x)) (a : List α) : Zq 0 (fun l => szL f a l) (nL n a) := fun l h0 h1 => by
  simp only [szL]
  split
  · exact ⟨by omega, fun h => by omega⟩
  · have b := Zq_F hf a (l - a.length) (by omega) (by omega)
    simp only at b
    refine ⟨by omega, fun h => ?_⟩
    have := b.2 h
    omega
theorem Zq_imp {c e : Int} {s : Int → Int} {q r : Nat} (h : Zq c s q) (hq : (r : Int) + c ≤ q + e) : Zq e s r := fun l h0 h1 => by
  have a := h l h0 h1
  refine ⟨a.1, fun h2 => ?_⟩
  have := a.2 h2
  omega
end Go.Fd

/-
  THE DATA OF THE LAWS: plain types, how they lie in memory (printed by lawgen.py). Own work.
-/
namespace Go.Fd
set_option maxRecDepth 10000
def cA2 (x : (Int × Int)) : List Tr := [tv x.1, tv x.2]
structure TSorting where
  tops : (List Int)
  nest : (List (List Int))
  sorts : (List (List Int))
  most : (List Int)
  apart : (List (Int × Int))
  deriving DecidableEq
def cSorting (x : TSorting) : List Tr := [.sl (rI x.tops), .sl (x.nest.map (fun l => [Tr.sl (rI l)])), .sl (x.sorts.map (fun l => [Tr.sl (rI l)])), .sl (rI x.most), .sl (x.apart.map cA2)]
def oSorting (x : TSorting) : IV := .ag [.ow 1 (rI x.tops) true, .ow 1 (x.nest.map (fun l => [Tr.sl (rI l)])) true, .ow 1 (x.sorts.map (fun l => [Tr.sl (rI l)])) true, .ow 1 (rI x.most) true, .ow 2 (x.apart.map cA2) true]
def bdSorting (n : Nat) (x : TSorting) : Prop := x.tops.length ≤ n ∧ x.nest.length ≤ n ∧ (∀ y ∈ x.nest, y.length ≤ n) ∧ x.sorts.length ≤ n ∧ (∀ y ∈ x.sorts, y.length ≤ n) ∧ x.most.length ≤ n ∧ x.apart.length ≤ n
structure TControl where
  name : ByteArray
  ports : Int
  kind_ : Int
  deriving DecidableEq
def cControl (x : TControl) : List Tr := [ts x.name, tv x.ports, tv x.kind_]
theorem cControl_len (x : TControl) : (cControl x).length = 3 := rfl
def oControl (x : TControl) : IV := .ag [iS x.name, iI x.ports, iI x.kind_]
def bdControl (n : Nat) (x : TControl) : Prop := x.name.size ≤ n
def ftControl (x : TControl) : Prop := fits .i64 x.ports ∧ fits .i64 x.kind_
def szControl (x : TControl) (l : Int) : Int := szTh (l - x.name.size) fun l => l
end Go.Fd

/-
  The numbers of the functions of this program, by name (printed by ids.py).
-/
namespace Go.Fd
abbrev fid_laws_FnExactFreeSorting : FuncId := 3
abbrev fid_laws_szControlS : FuncId := 6
abbrev fid_spec_FreeSorting : FuncId := 7
abbrev fid_laws_toControlS : FuncId := 8
abbrev fid_impl_FreeSorting : FuncId := 9
abbrev fid_laws_eqSorting : FuncId := 10
abbrev fid_laws_eqControlS : FuncId := 11
abbrev fid_laws_markControlS : FuncId := 12
abbrev fid_laws_markSorting : FuncId := 13
abbrev fid_laws_heldSorting : FuncId := 14
abbrev fid_laws_szControl : FuncId := 21
abbrev fid_spec_l2Sig : FuncId := 22
abbrev fid_spec_l5Count : FuncId := 23
abbrev fid_laws_toControl : FuncId := 24
abbrev fid_impl_IsSignature : FuncId := 25
abbrev fid_impl_controls : FuncId := 26
abbrev fid_laws_eqIntS : FuncId := 27
abbrev fid_laws_eqIntSS : FuncId := 28
abbrev fid_laws_eqIntA2S : FuncId := 29
abbrev fid_laws_eqControl : FuncId := 30
abbrev fid_laws_markText : FuncId := 31
abbrev fid_laws_markIntS : FuncId := 32
abbrev fid_laws_markIntSS : FuncId := 33
abbrev fid_laws_markIntA2S : FuncId := 34
abbrev fid_laws_heldIntS : FuncId := 35
abbrev fid_laws_heldIntSS : FuncId := 36
abbrev fid_laws_heldIntA2S : FuncId := 37
abbrev fid_impl_within : FuncId := 46
abbrev fid_spec_l2Name : FuncId := 54
abbrev fid_spec_l1In : FuncId := 55
abbrev fid_impl_isName : FuncId := 56
abbrev fid_slices_ContainsFunc_impl_Control_impl_Control : FuncId := 57
abbrev fid_impl_IsSignature_1 : FuncId := 58
abbrev fid_laws_eqIntA2 : FuncId := 59
abbrev fid_strings_Trim : FuncId := 77
abbrev fid_slices_IndexFunc_impl_Control_impl_Control : FuncId := 78
end Go.Fd

/-
  The annotated codes of the functions, printed by a program of mine (gen.py), and the check that they belong to the program.
-/
namespace Go.Fd
def c_spec_FreeSorting : F2 :=
  { nt := 53, res := [.c 2 (some 5) [2, 2, 2, 2, 3], .t 3 [0]], body :=
   (.sq (.rg none [⟨some 2, none, .al [.slice none 0 0, .slice none 0 0, .slice none 0 0, .slice none 0 0, .slice none 0 0] []⟩,
      ⟨some 3, none, .mv (.k (.bool false)) none⟩])
   (.sq (.sq (.rg none [⟨some 6, none, .mv (.t 0) none⟩,
       ⟨some 7, none, .ca .pure false (.f fid_spec_l2Sig) [.t 6]⟩,
       ⟨some 8, none, .nt (.t 7)⟩])
    (.cd (.t 8) (.sq (.rg none [⟨some 9, none, .bd [.slice none 0 0, .slice none 0 0, .slice none 0 0, .slice none 0 0, .slice none 0 0] [] [(1, 1), (2, 1)]⟩,
        ⟨none, none, .st 5 (.t 2) (.t 9)⟩,
        ⟨some 3, none, .mv (.k (.bool false)) none⟩])
     (.rt))
    (.sk)))
   (.sq (.rg none [⟨some 10, none, .mv (.t 0) none⟩,
      ⟨some 11, none, .ln (.t 10)⟩,
      ⟨some 12, none, .ca .pure true (.f fid_spec_l5Count) [.t 11]⟩,
      ⟨some 13, none, .bs 1 1 [.int .i64 0] [(0, .k (.int .i64 24))]⟩,
      ⟨some 14, none, .bd [.slice none 0 0, .slice none 0 0, .slice none 0 0, .slice none 0 0, .slice none 0 0] [(0, 1, .t 12), (3, 1, .t 13)] [(1, 1), (2, 1)]⟩,
      ⟨some 4, none, .al [.slice none 0 0, .slice none 0 0, .slice none 0 0, .slice none 0 0, .slice none 0 0] []⟩,
      ⟨none, none, .st 5 (.t 4) (.t 14)⟩])
   (.sq (.sq (.rg none [⟨some 5, none, .mv (.k (.int .i64 0)) none⟩])
    (.bl 0 (.lp [0, 2, 4, 5] [64, 128, 288, 289, 384, 416, 448, 449, 960, 1344, 1600] (.sq (.sq (.rg none [⟨some 15, none, .mv (.t 5) none⟩,
          ⟨some 16, none, .mv (.t 0) none⟩,
          ⟨some 17, none, .ln (.t 16)⟩,
          ⟨some 18, none, .bi .lss 0 (.t 15) (.t 17)⟩])
       (.cd (.t 18) (.sk)
       (.ex 0)))
      (.sq (.bl 1 (.sq (.rg (some 0) [⟨some 21, none, .fa 2 (.t 4)⟩,
           ⟨some 22, none, .ld none (.t 21)⟩,
           ⟨some 23, none, .mv (.t 0) none⟩,
           ⟨some 24, none, .mv (.t 5) none⟩,
           ⟨some 25, none, .ia 3 (.t 23) (.t 24)⟩,
           ⟨some 26, none, .fa 1 (.t 25)⟩,
           ⟨some 27, none, .ld none (.t 26)⟩,
           ⟨some 28, none, .ms 1 [.int .i64 0] (.t 27)⟩,
           ⟨some 29, none, .bv 1 1 [.slice none 0 0] [(0, .t 28)]⟩,
           ⟨some 30, none, .ap 1 2 (.t 22) (.t 29)⟩,
           ⟨some 31, none, .fa 2 (.t 4)⟩,
           ⟨none, none, .st 1 (.t 31) (.t 30)⟩])
        (.sq (.rg none [⟨some 32, none, .mv (.t 0) none⟩,
           ⟨some 33, none, .mv (.t 5) none⟩,
           ⟨some 34, none, .ia 3 (.t 32) (.t 33)⟩,
           ⟨some 35, none, .fa 2 (.t 34)⟩,
           ⟨some 36, none, .ld none (.t 35)⟩,
           ⟨some 37, none, .bi .eql 0 (.t 36) (.k (.int .i64 2))⟩])
        (.cd (.t 37) (.rg none [⟨some 38, none, .fa 1 (.t 4)⟩,
           ⟨some 39, none, .ld none (.t 38)⟩,
           ⟨some 40, none, .bs 1 0 [] []⟩,
           ⟨some 41, none, .bw 1 1 [.slice none 0 0] [(0, .t 40)]⟩,
           ⟨some 42, none, .ap 1 2 (.t 39) (.t 41)⟩,
           ⟨some 43, none, .fa 1 (.t 4)⟩,
           ⟨none, none, .st 1 (.t 43) (.t 42)⟩])
        (.rg (some 0) [⟨some 44, none, .fa 1 (.t 4)⟩,
           ⟨some 45, none, .ld none (.t 44)⟩,
           ⟨some 46, none, .mv (.t 0) none⟩,
           ⟨some 47, none, .ln (.t 46)⟩,
           ⟨some 48, none, .ca .pure true (.f fid_spec_l5Count) [.t 47]⟩,
           ⟨some 49, none, .bv 1 1 [.slice none 0 0] [(0, .t 48)]⟩,
           ⟨some 50, none, .ap 1 2 (.t 45) (.t 49)⟩,
           ⟨some 51, none, .fa 1 (.t 4)⟩,
           ⟨none, none, .st 1 (.t 51) (.t 50)⟩])))))
      (.rg none [⟨some 19, none, .mv (.t 5) none⟩,
        ⟨some 20, none, .bi .add 0 (.t 19) (.k (.int .i64 1))⟩,
        ⟨some 5, none, .mv (.t 20) none⟩]))))))
   (.sq (.rg none [⟨some 52, none, .ld (some 5) (.t 4)⟩,
      ⟨none, none, .st 5 (.t 2) (.t 52)⟩,
      ⟨some 3, none, .mv (.k (.bool true)) none⟩])
   (.rt)))))) }
theorem k_spec_FreeSorting : chkF Go.Proofs.Tryd.prog fid_spec_FreeSorting c_spec_FreeSorting = true := by kernel_rfl

def c_impl_FreeSorting : F2 :=
  { nt := 44, res := [.c 2 (some 5) [2, 2, 2, 2, 3], .t 3 [0]], body :=
   (.sq (.rg none [⟨some 2, none, .al [.slice none 0 0, .slice none 0 0, .slice none 0 0, .slice none 0 0, .slice none 0 0] []⟩,
      ⟨some 3, none, .mv (.k (.bool false)) none⟩])
   (.sq (.sq (.rg none [⟨some 8, none, .mv (.t 0) none⟩,
       ⟨some 9, none, .ca .pure false (.f fid_impl_IsSignature) [.t 8]⟩,
       ⟨some 10, none, .nt (.t 9)⟩])
    (.cd (.t 10) (.sq (.rg none [⟨some 11, none, .bd [.slice none 0 0, .slice none 0 0, .slice none 0 0, .slice none 0 0, .slice none 0 0] [] [(1, 1), (2, 1)]⟩,
        ⟨none, none, .st 5 (.t 2) (.t 11)⟩,
        ⟨some 3, none, .mv (.k (.bool false)) none⟩])
     (.rt))
    (.sk)))
   (.sq (.rg none [⟨some 12, none, .mv (.t 0) none⟩,
      ⟨some 13, none, .ca .pure true (.f fid_impl_controls) [.t 12]⟩,
      ⟨some 14, none, .bs 1 1 [.int .i64 0] [(0, .k (.int .i64 24))]⟩,
      ⟨some 15, none, .bd [.slice none 0 0, .slice none 0 0, .slice none 0 0, .slice none 0 0, .slice none 0 0] [(0, 1, .t 13), (3, 1, .t 14)] [(1, 1), (2, 1)]⟩,
      ⟨some 4, none, .al [.slice none 0 0, .slice none 0 0, .slice none 0 0, .slice none 0 0, .slice none 0 0] []⟩,
      ⟨none, none, .st 5 (.t 4) (.t 15)⟩])
   (.sq (.sq (.rg none [⟨some 16, none, .mv (.t 0) none⟩,
       ⟨some 17, none, .ln (.t 16)⟩,
       ⟨some 18, none, .mv (.k (.int .i64 0)) none⟩])
    (.bl 0 (.lp [0, 2, 4, 16, 17, 18] [64, 128, 352, 353, 416, 448, 480, 481, 1024, 1280] (.sq (.rg none [⟨some 19, none, .bi .lss 0 (.t 18) (.t 17)⟩])
      (.sq (.cd (.t 19) (.sk)
       (.ex 0))
      (.sq (.bl 1 (.sq (.rg none [⟨some 20, none, .ia 3 (.t 16) (.t 18)⟩,
           ⟨some 21, none, .ld (some 3) (.t 20)⟩,
           ⟨some 6, none, .al [.string ⟨#[]⟩, .int .i64 0, .int .i64 0] []⟩,
           ⟨none, none, .st 3 (.t 6) (.t 21)⟩])
        (.sq (.rg none [⟨some 22, none, .bs 1 0 [] []⟩,
           ⟨some 7, none, .mv (.t 22) none⟩])
        (.sq (.sq (.rg none [⟨some 23, none, .fa 2 (.t 6)⟩,
            ⟨some 24, none, .ld none (.t 23)⟩,
            ⟨some 25, none, .bi .neq 0 (.t 24) (.k (.int .i64 2))⟩])
         (.cd (.t 25) (.rg none [⟨some 26, none, .mv (.t 0) none⟩,
            ⟨some 27, none, .ca .pure true (.f fid_impl_controls) [.t 26]⟩,
            ⟨some 7, none, .mv (.t 27) none⟩])
         (.sk)))
        (.sq (.rg none [⟨some 28, none, .fa 1 (.t 4)⟩,
           ⟨some 29, none, .ld none (.t 28)⟩,
           ⟨some 30, none, .mv (.t 7) none⟩,
           ⟨some 31, none, .bw 1 1 [.slice none 0 0] [(0, .t 30)]⟩,
           ⟨some 32, none, .ap 1 2 (.t 29) (.t 31)⟩,
           ⟨some 33, none, .fa 1 (.t 4)⟩,
           ⟨none, none, .st 1 (.t 33) (.t 32)⟩])
        (.rg (some 0) [⟨some 34, none, .fa 2 (.t 4)⟩,
          ⟨some 35, none, .ld none (.t 34)⟩,
          ⟨some 36, none, .fa 1 (.t 6)⟩,
          ⟨some 37, none, .ld none (.t 36)⟩,
          ⟨some 38, none, .ms 1 [.int .i64 0] (.t 37)⟩,
          ⟨some 39, none, .bv 1 1 [.slice none 0 0] [(0, .t 38)]⟩,
          ⟨some 40, none, .ap 1 2 (.t 35) (.t 39)⟩,
          ⟨some 41, none, .fa 2 (.t 4)⟩,
          ⟨none, none, .st 1 (.t 41) (.t 40)⟩]))))))
      (.rg none [⟨some 42, none, .bi .add 0 (.t 18) (.k (.int .i64 1))⟩,
        ⟨some 18, none, .mv (.t 42) none⟩])))))))
   (.sq (.rg none [⟨some 43, none, .ld (some 5) (.t 4)⟩,
      ⟨none, none, .st 5 (.t 2) (.t 43)⟩,
      ⟨some 3, none, .mv (.k (.bool true)) none⟩])
   (.rt)))))) }
theorem k_impl_FreeSorting : chkF Go.Proofs.Tryd.prog fid_impl_FreeSorting c_impl_FreeSorting = true := by kernel_rfl

def c_spec_l2Sig : F2 :=
  { nt := 55, res := [.t 2 [0]], body :=
   (.sq (.rg none [⟨some 2, none, .mv (.k (.bool false)) none⟩])
   (.sq (.sq (.rg none [⟨some 3, none, .mv (.k (.int .i64 0)) none⟩])
    (.bl 0 (.lp [0, 3] [] (.sq (.sq (.rg none [⟨some 5, none, .mv (.t 3) none⟩,
          ⟨some 6, none, .mv (.t 0) none⟩,
          ⟨some 7, none, .ln (.t 6)⟩,
          ⟨some 8, none, .bi .lss 0 (.t 5) (.t 7)⟩])
       (.cd (.t 8) (.sk)
       (.ex 0)))
      (.sq (.bl 1 (.sq (.sq (.rg none [⟨some 11, none, .mv (.t 0) none⟩,
            ⟨some 12, none, .mv (.t 3) none⟩,
            ⟨some 13, none, .ia 3 (.t 11) (.t 12)⟩,
            ⟨some 14, none, .fa 0 (.t 13)⟩,
            ⟨some 15, none, .ld none (.t 14)⟩,
            ⟨some 16, none, .ca .pure false (.f fid_spec_l2Name) [.t 15]⟩,
            ⟨some 17, none, .nt (.t 16)⟩,
            ⟨some 18, none, .mv (.t 17) none⟩,
            ⟨some 19, (some (18, false)), .mv (.t 0) none⟩,
            ⟨some 20, (some (18, false)), .mv (.t 3) none⟩,
            ⟨some 21, (some (18, false)), .ia 3 (.t 19) (.t 20)⟩,
            ⟨some 22, (some (18, false)), .fa 1 (.t 21)⟩,
            ⟨some 23, (some (18, false)), .ld none (.t 22)⟩,
            ⟨some 24, (some (18, false)), .ca .pure false (.f fid_spec_l1In) [.t 23, .k (.int .i64 0), .k (.int .i64 3)]⟩,
            ⟨some 25, (some (18, false)), .nt (.t 24)⟩,
            ⟨some 26, none, .pk (.t 18) (.k (.bool true)) (.t 25)⟩,
            ⟨some 27, none, .mv (.t 26) none⟩,
            ⟨some 28, (some (27, false)), .mv (.t 0) none⟩,
            ⟨some 29, (some (27, false)), .mv (.t 3) none⟩,
            ⟨some 30, (some (27, false)), .ia 3 (.t 28) (.t 29)⟩,
            ⟨some 31, (some (27, false)), .fa 2 (.t 30)⟩,
            ⟨some 32, (some (27, false)), .ld none (.t 31)⟩,
            ⟨some 33, (some (27, false)), .ca .pure false (.f fid_spec_l1In) [.t 32, .k (.int .i64 0), .k (.int .i64 2)]⟩,
            ⟨some 34, (some (27, false)), .nt (.t 33)⟩,
            ⟨some 35, none, .pk (.t 27) (.k (.bool true)) (.t 34)⟩])
         (.cd (.t 35) (.sq (.rg none [⟨some 2, none, .mv (.k (.bool false)) none⟩])
          (.rt))
         (.sk)))
        (.sq (.rg none [⟨some 4, none, .mv (.k (.int .i64 0)) none⟩])
        (.bl 2 (.lp [0, 3, 4] [] (.sq (.sq (.rg none [⟨some 36, none, .mv (.t 4) none⟩,
              ⟨some 37, none, .mv (.t 3) none⟩,
              ⟨some 38, none, .bi .lss 0 (.t 36) (.t 37)⟩])
           (.cd (.t 38) (.sk)
           (.ex 2)))
          (.sq (.bl 3 (.sq (.rg (some 0) [⟨some 41, none, .mv (.t 0) none⟩,
               ⟨some 42, none, .mv (.t 4) none⟩,
               ⟨some 43, none, .ia 3 (.t 41) (.t 42)⟩,
               ⟨some 44, none, .fa 0 (.t 43)⟩,
               ⟨some 45, none, .ld none (.t 44)⟩,
               ⟨some 46, none, .mv (.t 0) none⟩,
               ⟨some 47, none, .mv (.t 3) none⟩,
               ⟨some 48, none, .ia 3 (.t 46) (.t 47)⟩,
               ⟨some 49, none, .fa 0 (.t 48)⟩,
               ⟨some 50, none, .ld none (.t 49)⟩,
               ⟨some 51, none, .bi .eql 0 (.t 45) (.t 50)⟩])
            (.cd (.t 51) (.sq (.rg none [⟨some 2, none, .mv (.k (.bool false)) none⟩])
             (.rt))
            (.sk))))
          (.rg none [⟨some 39, none, .mv (.t 4) none⟩,
            ⟨some 40, none, .bi .add 0 (.t 39) (.k (.int .i64 1))⟩,
            ⟨some 4, none, .mv (.t 40) none⟩]))))))))
      (.rg none [⟨some 9, none, .mv (.t 3) none⟩,
        ⟨some 10, none, .bi .add 0 (.t 9) (.k (.int .i64 1))⟩,
        ⟨some 3, none, .mv (.t 10) none⟩]))))))
   (.sq (.rg none [⟨some 52, none, .mv (.t 0) none⟩,
      ⟨some 53, none, .ln (.t 52)⟩,
      ⟨some 54, none, .ca .pure false (.f fid_spec_l1In) [.t 53, .k (.int .i64 1), .k (.int .i64 6)]⟩,
      ⟨some 2, none, .mv (.t 54) none⟩])
   (.rt)))) }
theorem k_spec_l2Sig : chkF Go.Proofs.Tryd.prog fid_spec_l2Sig c_spec_l2Sig = true := by kernel_rfl

def c_spec_l5Count : F2 :=
  { nt := 16, res := [.t 2 [2]], body :=
   (.sq (.rg none [⟨some 2, none, .mv (.k (.slice none 0 0)) none⟩])
   (.sq (.rg none [⟨some 5, none, .bs 1 0 [] []⟩,
      ⟨some 3, none, .mv (.t 5) none⟩])
   (.sq (.sq (.rg none [⟨some 4, none, .mv (.k (.int .i64 0)) none⟩])
    (.bl 0 (.lp [0, 3, 4] [160, 448] (.sq (.sq (.rg none [⟨some 6, none, .mv (.t 4) none⟩,
          ⟨some 7, none, .mv (.t 0) none⟩,
          ⟨some 8, none, .bi .lss 0 (.t 6) (.t 7)⟩])
       (.cd (.t 8) (.sk)
       (.ex 0)))
      (.sq (.bl 1 (.rg none [⟨some 11, none, .mv (.t 3) none⟩,
          ⟨some 12, none, .mv (.t 4) none⟩,
          ⟨some 13, none, .bs 1 1 [.int .i64 0] [(0, .t 12)]⟩,
          ⟨some 14, none, .ap 1 0 (.t 11) (.t 13)⟩,
          ⟨some 3, none, .mv (.t 14) none⟩]))
      (.rg none [⟨some 9, none, .mv (.t 4) none⟩,
        ⟨some 10, none, .bi .add 0 (.t 9) (.k (.int .i64 1))⟩,
        ⟨some 4, none, .mv (.t 10) none⟩]))))))
   (.sq (.rg none [⟨some 15, none, .mv (.t 3) none⟩,
      ⟨some 2, none, .mv (.t 15) none⟩])
   (.rt))))) }
theorem k_spec_l5Count : chkF Go.Proofs.Tryd.prog fid_spec_l5Count c_spec_l5Count = true := by kernel_rfl

def c_impl_IsSignature : F2 :=
  { nt := 40, res := [.t 2 [0]], body :=
   (.sq (.rg none [⟨some 2, none, .mv (.k (.bool false)) none⟩])
   (.sq (.sq (.rg none [⟨some 5, none, .mv (.t 0) none⟩,
       ⟨some 6, none, .ln (.t 5)⟩,
       ⟨some 7, none, .ca .pure false (.f fid_impl_within) [.t 6, .k (.int .i64 1), .k (.int .i64 6)]⟩,
       ⟨some 8, none, .nt (.t 7)⟩])
    (.cd (.t 8) (.sq (.rg none [⟨some 2, none, .mv (.k (.bool false)) none⟩])
     (.rt))
    (.sk)))
   (.sq (.sq (.rg none [⟨some 9, none, .mv (.t 0) none⟩,
       ⟨some 10, none, .ln (.t 9)⟩,
       ⟨some 11, none, .mv (.k (.int .i64 0)) none⟩])
    (.bl 0 (.lp [0, 9, 10, 11] [] (.sq (.rg none [⟨some 12, none, .bi .lss 0 (.t 11) (.t 10)⟩])
      (.sq (.cd (.t 12) (.sk)
       (.ex 0))
      (.sq (.bl 1 (.sq (.rg none [⟨some 13, none, .mv (.t 11) none⟩,
           ⟨some 14, none, .ia 3 (.t 9) (.t 11)⟩,
           ⟨some 15, none, .ld (some 3) (.t 14)⟩,
           ⟨some 4, none, .al [.string ⟨#[]⟩, .int .i64 0, .int .i64 0] []⟩,
           ⟨some 3, none, .mv (.t 13) none⟩,
           ⟨none, none, .st 3 (.t 4) (.t 15)⟩])
        (.sq (.rg none [⟨some 16, none, .fa 0 (.t 4)⟩,
           ⟨some 17, none, .ld none (.t 16)⟩,
           ⟨some 18, none, .ca .pure false (.f fid_impl_isName) [.t 17]⟩,
           ⟨some 19, none, .nt (.t 18)⟩,
           ⟨some 20, none, .mv (.t 19) none⟩,
           ⟨some 21, (some (20, false)), .fa 1 (.t 4)⟩,
           ⟨some 22, (some (20, false)), .ld none (.t 21)⟩,
           ⟨some 23, (some (20, false)), .ca .pure false (.f fid_impl_within) [.t 22, .k (.int .i64 0), .k (.int .i64 3)]⟩,
           ⟨some 24, (some (20, false)), .nt (.t 23)⟩,
           ⟨some 25, none, .pk (.t 20) (.k (.bool true)) (.t 24)⟩,
           ⟨some 26, none, .mv (.t 25) none⟩,
           ⟨some 27, (some (26, false)), .fa 2 (.t 4)⟩,
           ⟨some 28, (some (26, false)), .ld none (.t 27)⟩,
           ⟨some 29, (some (26, false)), .ca .pure false (.f fid_impl_within) [.t 28, .k (.int .i64 0), .k (.int .i64 2)]⟩,
           ⟨some 30, (some (26, false)), .nt (.t 29)⟩,
           ⟨some 31, none, .pk (.t 26) (.k (.bool true)) (.t 30)⟩,
           ⟨some 32, none, .mv (.t 31) none⟩,
           ⟨some 33, (some (32, false)), .mv (.t 0) none⟩,
           ⟨some 34, (some (32, false)), .mv (.t 3) none⟩,
           ⟨some 35, (some (32, false)), .sx 3 (.t 33) none (some (.t 34)) none⟩,
           ⟨some 36, (some (32, false)), .mf fid_impl_IsSignature_1 [.t 4]⟩,
           ⟨some 37, (some (32, false)), .ca .pure false (.f fid_slices_ContainsFunc_impl_Control_impl_Control) [.t 35, .t 36]⟩,
           ⟨some 38, none, .pk (.t 32) (.k (.bool true)) (.t 37)⟩])
        (.cd (.t 38) (.sq (.rg none [⟨some 2, none, .mv (.k (.bool false)) none⟩])
         (.rt))
        (.sk)))))
      (.rg none [⟨some 39, none, .bi .add 0 (.t 11) (.k (.int .i64 1))⟩,
        ⟨some 11, none, .mv (.t 39) none⟩])))))))
   (.sq (.rg none [⟨some 2, none, .mv (.k (.bool true)) none⟩])
   (.rt))))) }
theorem k_impl_IsSignature : chkF Go.Proofs.Tryd.prog fid_impl_IsSignature c_impl_IsSignature = true := by kernel_rfl

def c_impl_controls : F2 :=
  { nt := 17, res := [.t 2 [2]], body :=
   (.sq (.rg none [⟨some 2, none, .mv (.k (.slice none 0 0)) none⟩])
   (.sq (.rg none [⟨some 5, none, .bs 1 0 [] []⟩,
      ⟨some 3, none, .mv (.t 5) none⟩])
   (.sq (.sq (.rg none [⟨some 6, none, .mv (.t 0) none⟩,
       ⟨some 7, none, .ln (.t 6)⟩,
       ⟨some 8, none, .mv (.k (.int .i64 0)) none⟩])
    (.bl 0 (.lp [3, 7, 8] [160, 448] (.sq (.rg none [⟨some 9, none, .bi .lss 0 (.t 8) (.t 7)⟩])
      (.sq (.cd (.t 9) (.sk)
       (.ex 0))
      (.sq (.bl 1 (.sq (.rg none [⟨some 10, none, .mv (.t 8) none⟩,
           ⟨some 4, none, .mv (.t 10) none⟩])
        (.rg none [⟨some 11, none, .mv (.t 3) none⟩,
          ⟨some 12, none, .mv (.t 4) none⟩,
          ⟨some 13, none, .bs 1 1 [.int .i64 0] [(0, .t 12)]⟩,
          ⟨some 14, none, .ap 1 0 (.t 11) (.t 13)⟩,
          ⟨some 3, none, .mv (.t 14) none⟩])))
      (.rg none [⟨some 15, none, .bi .add 0 (.t 8) (.k (.int .i64 1))⟩,
        ⟨some 8, none, .mv (.t 15) none⟩])))))))
   (.sq (.rg none [⟨some 16, none, .mv (.t 3) none⟩,
      ⟨some 2, none, .mv (.t 16) none⟩])
   (.rt))))) }
theorem k_impl_controls : chkF Go.Proofs.Tryd.prog fid_impl_controls c_impl_controls = true := by kernel_rfl

def c_impl_within : F2 :=
  { nt := 15, res := [.t 6 [0]], body :=
   (.sq (.rg none [⟨some 6, none, .mv (.k (.bool false)) none⟩])
   (.sq (.rg none [⟨some 7, none, .mv (.t 0) none⟩,
      ⟨some 8, none, .mv (.t 1) none⟩,
      ⟨some 9, none, .bi .geq 0 (.t 7) (.t 8)⟩,
      ⟨some 10, none, .mv (.t 9) none⟩,
      ⟨some 11, (some (10, true)), .mv (.t 0) none⟩,
      ⟨some 12, (some (10, true)), .mv (.t 2) none⟩,
      ⟨some 13, (some (10, true)), .bi .leq 0 (.t 11) (.t 12)⟩,
      ⟨some 14, none, .pk (.t 10) (.t 13) (.k (.bool false))⟩,
      ⟨some 6, none, .mv (.t 14) none⟩])
   (.rt))) }
theorem k_impl_within : chkF Go.Proofs.Tryd.prog fid_impl_within c_impl_within = true := by kernel_rfl

def c_spec_l2Name : F2 :=
  { nt := 23, res := [.t 2 [0]], body :=
   (.sq (.rg none [⟨some 2, none, .mv (.k (.bool false)) none⟩])
   (.sq (.sq (.rg none [⟨some 3, none, .mv (.k (.int .i64 0)) none⟩])
    (.bl 0 (.lp [0, 3] [] (.sq (.sq (.rg none [⟨some 4, none, .mv (.t 3) none⟩,
          ⟨some 5, none, .mv (.t 0) none⟩,
          ⟨some 6, none, .lg (.t 5)⟩,
          ⟨some 7, none, .bi .lss 0 (.t 4) (.t 6)⟩])
       (.cd (.t 7) (.sk)
       (.ex 0)))
      (.sq (.bl 1 (.sq (.rg none [⟨some 10, none, .mv (.t 0) none⟩,
           ⟨some 11, none, .mv (.t 3) none⟩,
           ⟨some 12, none, .ix (.t 10) (.t 11)⟩,
           ⟨some 13, none, .bi .lss 0 (.t 12) (.k (.int .u8 97))⟩,
           ⟨some 14, none, .mv (.t 13) none⟩,
           ⟨some 15, (some (14, false)), .mv (.t 0) none⟩,
           ⟨some 16, (some (14, false)), .mv (.t 3) none⟩,
           ⟨some 17, (some (14, false)), .ix (.t 15) (.t 16)⟩,
           ⟨some 18, (some (14, false)), .bi .gtr 0 (.t 17) (.k (.int .u8 122))⟩,
           ⟨some 19, none, .pk (.t 14) (.k (.bool true)) (.t 18)⟩])
        (.cd (.t 19) (.sq (.rg none [⟨some 2, none, .mv (.k (.bool false)) none⟩])
         (.rt))
        (.sk))))
      (.rg none [⟨some 8, none, .mv (.t 3) none⟩,
        ⟨some 9, none, .bi .add 0 (.t 8) (.k (.int .i64 1))⟩,
        ⟨some 3, none, .mv (.t 9) none⟩]))))))
   (.sq (.rg none [⟨some 20, none, .mv (.t 0) none⟩,
      ⟨some 21, none, .lg (.t 20)⟩,
      ⟨some 22, none, .ca .pure false (.f fid_spec_l1In) [.t 21, .k (.int .i64 1), .k (.int .i64 4)]⟩,
      ⟨some 2, none, .mv (.t 22) none⟩])
   (.rt)))) }
theorem k_spec_l2Name : chkF Go.Proofs.Tryd.prog fid_spec_l2Name c_spec_l2Name = true := by kernel_rfl

def c_spec_l1In : F2 :=
  { nt := 15, res := [.t 6 [0]], body :=
   (.sq (.rg none [⟨some 6, none, .mv (.k (.bool false)) none⟩])
   (.sq (.rg none [⟨some 7, none, .mv (.t 0) none⟩,
      ⟨some 8, none, .mv (.t 1) none⟩,
      ⟨some 9, none, .bi .geq 0 (.t 7) (.t 8)⟩,
      ⟨some 10, none, .mv (.t 9) none⟩,
      ⟨some 11, (some (10, true)), .mv (.t 0) none⟩,
      ⟨some 12, (some (10, true)), .mv (.t 2) none⟩,
      ⟨some 13, (some (10, true)), .bi .leq 0 (.t 11) (.t 12)⟩,
      ⟨some 14, none, .pk (.t 10) (.t 13) (.k (.bool false))⟩,
      ⟨some 6, none, .mv (.t 14) none⟩])
   (.rt))) }
theorem k_spec_l1In : chkF Go.Proofs.Tryd.prog fid_spec_l1In c_spec_l1In = true := by kernel_rfl

def c_impl_isName : F2 :=
  { nt := 11, res := [.t 2 [0]], body :=
   (.sq (.rg none [⟨some 2, none, .mv (.k (.bool false)) none⟩])
   (.sq (.rg none [⟨some 3, none, .mv (.t 0) none⟩,
      ⟨some 4, none, .lg (.t 3)⟩,
      ⟨some 5, none, .ca .pure false (.f fid_impl_within) [.t 4, .k (.int .i64 1), .k (.int .i64 4)]⟩,
      ⟨some 6, none, .mv (.t 5) none⟩,
      ⟨some 7, (some (6, true)), .mv (.t 0) none⟩,
      ⟨some 8, (some (6, true)), .ca .pure false (.f fid_strings_Trim) [.t 7, .k (.string ⟨#[97, 98, 99, 100, 101, 102, 103, 104, 105, 106, 107, 108, 109, 110, 111, 112, 113, 114, 115, 116, 117, 118, 119, 120, 121, 122]⟩)]⟩,
      ⟨some 9, (some (6, true)), .bi .eql 0 (.t 8) (.k (.string ⟨#[]⟩))⟩,
      ⟨some 10, none, .pk (.t 6) (.t 9) (.k (.bool false))⟩,
      ⟨some 2, none, .mv (.t 10) none⟩])
   (.rt))) }
theorem k_impl_isName : chkF Go.Proofs.Tryd.prog fid_impl_isName c_impl_isName = true := by kernel_rfl

def c_impl_IsSignature_1 : F2 :=
  { nt := 9, res := [.t 3 [0]], body :=
   (.sq (.rg none [⟨some 2, none, .bt (.t 0)⟩,
      ⟨some 3, none, .mv (.k (.bool false)) none⟩])
   (.sq (.rg none [⟨some 4, none, .fa 0 (.t 2)⟩,
      ⟨some 5, none, .ld none (.t 4)⟩,
      ⟨some 6, none, .fa 0 (.t 1)⟩,
      ⟨some 7, none, .ld none (.t 6)⟩,
      ⟨some 8, none, .bi .eql 0 (.t 5) (.t 7)⟩,
      ⟨some 3, none, .mv (.t 8) none⟩])
   (.rt))) }
theorem k_impl_IsSignature_1 : chkF Go.Proofs.Tryd.prog fid_impl_IsSignature_1 c_impl_IsSignature_1 = true := by kernel_rfl

end Go.Fd

/-
  ANNOTATED CODES OF GO'S GENERIC FUNCTIONS ON SLICES, AT ANY ELEMENT (printed by generic.py out of one instance each). Own work.
-/
namespace Go.Fd
def gIxF (k : Nat) (m : Option Nat) : F2 :=
  { nt := 19, res := [.t 4 [0]], body :=
   (.sq (.rg none [⟨some 4, none, .mv (.k (.int .i64 0)) none⟩])
   (.sq (.sq (.rg none [⟨some 6, none, .mv (.t 0) none⟩,
       ⟨some 7, none, .ln (.t 6)⟩,
       ⟨some 8, none, .mv (.k (.int .i64 0)) none⟩])
    (.bl 0 (.lp [0, 1, 7, 8] [] (.sq (.rg none [⟨some 9, none, .bi .lss 0 (.t 8) (.t 7)⟩])
      (.sq (.cd (.t 9) (.sk)
       (.ex 0))
      (.sq (.bl 1 (.sq (.rg none [⟨some 10, none, .mv (.t 8) none⟩,
           ⟨some 5, none, .mv (.t 10) none⟩])
        (.sq (.rg none [⟨some 11, none, .mv (.t 1) none⟩,
           ⟨some 12, none, .mv (.t 0) none⟩,
           ⟨some 13, none, .mv (.t 5) none⟩,
           ⟨some 14, none, .ia k (.t 12) (.t 13)⟩,
           ⟨some 15, none, .ld m (.t 14)⟩,
           ⟨some 16, none, .ca .pure false (.t 11) [.t 15]⟩])
        (.cd (.t 16) (.sq (.rg none [⟨some 17, none, .mv (.t 5) none⟩,
            ⟨some 4, none, .mv (.t 17) none⟩])
         (.rt))
        (.sk)))))
      (.rg none [⟨some 18, none, .bi .add 0 (.t 8) (.k (.int .i64 1))⟩,
        ⟨some 8, none, .mv (.t 18) none⟩])))))))
   (.sq (.rg none [⟨some 4, none, .mv (.k (.int .i64 (-1))) none⟩])
   (.rt)))) }
def gCoF (fi : FuncId) : F2 :=
  { nt := 9, res := [.t 4 [0]], body :=
   (.sq (.rg none [⟨some 4, none, .mv (.k (.bool false)) none⟩])
   (.sq (.rg none [⟨some 5, none, .mv (.t 0) none⟩,
      ⟨some 6, none, .mv (.t 1) none⟩,
      ⟨some 7, none, .ca .pure false (.f fi) [.t 5, .t 6]⟩,
      ⟨some 8, none, .bi .geq 0 (.t 7) (.k (.int .i64 0))⟩,
      ⟨some 4, none, .mv (.t 8) none⟩])
   (.rt))) }
end Go.Fd

/-
  GO'S GENERIC FUNCTIONS ON SLICES, AT ANY ELEMENT. Own work.
-/
namespace Go.Fd
set_option maxRecDepth 20000

section rules
variable {L : Sto} {F : List IV → Prop} {lvl : Nat}
theorem r_snta : ∀ {l : List (List Tr)} {F : List IV → Prop}, snaps L (l.map IV.ta) F = F (l.map IV.ta)
  | [], F => r_sn0
  | x :: r, F => by
    simp only [List.map_cons]
    rw [r_sn5, r_snta]
    rfl
theorem r_mensta {Pd : Oid → Prop} : ∀ {l : List (List Tr)}, mens Pd (l.map IV.ta) = True
  | [] => rfl
  | x :: r => by
    simp only [List.map_cons, mens, men, true_and]
    exact r_mensta
theorem r_okmsta {js : List Nat} {l : List (List Tr)} : okms lvl js (l.map IV.ta) = True := r_mensta
end rules

section
variable {P : Program} {α : Type}
theorem getA {α β : Type} {c : α → β} {l : List α} {j : Nat} (h : j < l.length) : (l.map c)[j]? = some (c l[j]) := by simp [h]
theorem cut_take0 {α : Type} {c : α → List Tr} {l : List α} {j : Nat} : cut (l.map c) 0 (j - 0) = (l.take j).map c := by
  simp only [cut, List.drop_zero, Nat.sub_zero, List.map_take]
theorem drop_cons {α : Type} {l : List α} {j : Nat} (h : j < l.length) : l.drop j = l[j] :: l.drop (j + 1) := List.drop_eq_getElem_cons h

/-- The first place that answers true, -1 for none. -/
def ixF (f : α → Bool) : List α → Int → Int
  | [], _ => -1
  | x :: r, j => if f x = true then j else ixF f r (j + 1)
theorem ixF_cons {f : α → Bool} {x : α} {r : List α} {j : Int} : ixF f (x :: r) j = if f x = true then j else ixF f r (j + 1) := rfl
theorem ixF_any {f : α → Bool} : ∀ {l : List α} {j : Int}, 0 ≤ j → (0 ≤ ixF f l j ↔ l.any f = true)
  | [], j, _ => by simp [ixF]
  | x :: r, j, h => by
    rw [ixF_cons, List.any_cons]
    cases hx : f x with
    | true => simp [h]
    | false =>
      simp only [Bool.false_eq_true, if_false, Bool.false_or]
      exact ixF_any (by omega)

theorem sem_ixFk {k : Nat} {fid : FuncId} (hc : chkF P fid (gIxF k (some k)) = true) {c : α → List Tr} (hk : ∀ x, (c x).length = k) {f : α → Bool} {fe : FuncId} {cs : List (List Tr)} (l : List α) (hl : l.length ≤ 9223372036854775807)
    (hf : ∀ x ∈ l, ∀ lvl S, Sem P fe lvl (.ag ((c x).map .tr) :: cs.map IV.ta) S (iB (f x)) S) (lvl : Nat) (S : Sto) : Sem P fid lvl [.tr (.sl (l.map c)), .fn fe (cs.map IV.ta)] S (iI (ixF f l 0)) S := by
  refine sem_of_chk hc trivial ?_
  simp only [gIxF, List.length_map, r_cons, r_nil, r_kont, r_seq1, r_rg, r_sq, r_bl, r_wpF, r_op1, r_go1, r_mv, r_ln, r_ln1, ptd, lk, pt, xv, kv, kc, params, ↓reduceIte, Nat.reduceEqDiff, reduceCtorEq, List.length_cons, List.length_nil, Nat.reduceAdd, Nat.reduceLeDiff, Nat.reduceLT, true_and, Nat.zero_add, List.length_map]
  refine wp_cnt (α := Unit) l.length (fun j _ => [(8, iI j)]) (fun _ _ => []) (fun j _ => ixF f (l.drop j) j = ixF f l 0) () (by simp only [r_okmsta, r_clean, r_okm4, r_okm8, r_okE0, r_okE1, r_okL0, ↓reduceIte, Nat.reduceEqDiff, reduceCtorEq, memB, keepB, keepOB, Bool.false_eq_true, and_self]) (by (simp only [r_fgt, r_chg, r_pts0, r_pts1, r_ptOs0, pt, ↓reduceIte, Nat.reduceEqDiff, reduceCtorEq, Nat.reduceLT, memB, keepB, keepOB, Bool.false_eq_true, Int.cast_ofNat_Int]) <;> rfl) rfl ?_
  intro j _ hj hA
  simp only [r_cons, r_nil, r_kont, r_seq1, r_seq2, r_blk2, r_fn2, r_sk, r_rg, r_sq, r_bl, r_ex, r_rt, r_cd, r_cd2, r_op1, r_go1, r_mv, r_bi, r_lti, r_ixn, r_ia, r_ia1, r_fin, r_kfe1, r_kcx, r_exps0, r_exps1, r_kex, r_exp1, r_expv2, r_fgt, r_round2, r_chg, r_pts0, r_pts1, r_ptOs0, ptd, lk, pt, xv, kv, kc, ↓reduceIte, Nat.reduceEqDiff, reduceCtorEq, Nat.reduceLT, true_and, and_true, decide_eq_true_eq, memB, keepB, keepOB, Bool.false_eq_true, Int.toNat_natCast, Int.natCast_nonneg]
  refine ite_of (fun hlt => ?_) (fun hge => ?_)
  · have hja : j < l.length := by omega
    have ga := getA (c := c) hja
    have hkk := hk l[j]
    have htk : (c l[j]).take k = c l[j] := List.take_of_length_le (by omega)
    rw [drop_cons hja, ixF_cons] at hA
    simp only [ga, hkk, htk, r_snta, r_snm, r_mensta, r_mensm, r_cons, r_kont, r_op1, r_go1, r_op3, r_iae, r_ld, r_ld4, r_kcn, r_kagn, r_sn3, r_ca, r_ca1, r_snm, r_mensm, ptd, lk, pt, xv, ↓reduceIte, Nat.reduceEqDiff, reduceCtorEq, Nat.reduceLT, true_and, List.map_cons, List.map_nil, List.cons_append, List.nil_append, mens, men, Nat.le_refl, and_self]
    refine kca_intro (hf _ (List.getElem_mem hja)) ?_
    simp only [r_mensta, r_cons, r_nil, r_kont, r_seq1, r_seq3, r_blk1, r_blk3, r_fn2, r_sk, r_rg, r_sq, r_rt, r_cd, r_cd2, r_op1, r_go1, r_mv, r_bi, r_add0, r_fin, r_kfe1, r_kcx, r_exps0, r_exps1, r_kex, r_exp1, r_expv2, r_fgt, r_clean, r_okm4, r_okm8, r_okE0, r_okE1, r_okL0, r_round1, r_round3, r_lt1, ptd, keyOf, freshK, lk, pt, addO, xv, kv, kc, ↓reduceIte, Nat.reduceEqDiff, Nat.reduceMul, reduceCtorEq, List.length_nil, Nat.reduceLT, true_and, and_true, noSh, isSc, impv, memB, keepB, keepOB, or_true, Bool.false_eq_true, and_self]
    refine ite_of (fun h => ?_) (fun h => ?_)
    · rw [if_pos h] at hA
      rw [← hA]
    · rw [if_neg h] at hA
      exact ⟨by rw [fits_i64]; omega, cntJ_intro () hja rfl hA⟩
  · have : j = l.length := by omega
    subst this
    rw [List.drop_length] at hA
    rw [← hA]
    rfl
theorem sem_coF {fid fi : FuncId} (hc : chkF P fid (gCoF fi) = true) {es : Row} {f : α → Bool} {fe : FuncId} {cs : List (List Tr)} {l : List α}
    (hi : ∀ lvl S, Sem P fi lvl [.tr (.sl es), .fn fe (cs.map IV.ta)] S (iI (ixF f l 0)) S) (lvl : Nat) (S : Sto) : Sem P fid lvl [.tr (.sl es), .fn fe (cs.map IV.ta)] S (iB (l.any f)) S := by
  refine sem_of_chk hc trivial ?_
  simp only [gCoF, r_snta, r_mensta, r_cons, r_nil, r_kont, r_seq1, r_rg, r_sq, r_wpF, r_op1, r_mv, r_kcn, r_kfnn, r_sn0, r_sn1, r_sn4, r_ca, r_ca1, ptd, lk, pt, xv, kv, kc, params, ↓reduceIte, Nat.reduceEqDiff, reduceCtorEq, List.length_cons, List.length_nil, Nat.reduceAdd, Nat.reduceLeDiff, Nat.reduceLT, true_and, List.map_cons, List.map_nil, List.cons_append, List.nil_append, mens, men, Nat.zero_add, and_self]
  refine kca_intro hi ?_
  simp only [r_cons, r_nil, r_kont, r_seq1, r_fn2, r_rt, r_op1, r_go1, r_mv, r_bi, r_gei, r_fin, r_kfe1, r_kcx, r_exps0, r_exps1, r_kex, r_exp1, r_expv2, ptd, keyOf, freshK, lk, pt, addO, xv, kv, kc, ↓reduceIte, Nat.reduceEqDiff, Nat.reduceMul, reduceCtorEq, List.length_nil, Nat.reduceLT, true_and, and_true, noSh, isSc, impv, or_true]
  have := ixF_any (f := f) (l := l) (Int.le_refl 0)
  by_cases h : l.any f = true
  · simp [h, this.2 h]
  · simp [h, mt this.1 h]
theorem sem_coFk {k : Nat} {fid fi : FuncId} (hc : chkF P fid (gCoF fi) = true) (hi : chkF P fi (gIxF k (some k)) = true) {c : α → List Tr} (hk : ∀ x, (c x).length = k) {f : α → Bool} {fe : FuncId} {cs : List (List Tr)} (l : List α) (hl : l.length ≤ 9223372036854775807)
    (hf : ∀ x ∈ l, ∀ lvl S, Sem P fe lvl (.ag ((c x).map .tr) :: cs.map IV.ta) S (iB (f x)) S) (lvl : Nat) (S : Sto) : Sem P fid lvl [.tr (.sl (l.map c)), .fn fe (cs.map IV.ta)] S (iB (l.any f)) S :=
  sem_coF hc (sem_ixFk hi hk l hl hf) lvl S

/-! ## equal slices -/
/-! ## the place of an element -/
end
end Go.Fd

/-
  WHAT HOLDS OF THE PROGRAM'S AND THE REFERENCE'S SMALL FUNCTIONS ON NUMBERS. Own work.
-/
namespace Go.Fd
set_option maxRecDepth 20000

/-- A statement as a bool. -/
noncomputable def dc (p : Prop) : Bool := @decide p (Classical.propDecidable p)
theorem dc_iff {p : Prop} : dc p = true ↔ p := by unfold dc; simp
theorem dc_true {p : Prop} (h : p) : dc p = true := dc_iff.2 h
theorem dc_false {p : Prop} (h : ¬ p) : dc p = false := by
  cases hh : dc p with
  | false => rfl
  | true => exact absurd (dc_iff.1 hh) h
theorem dc_not {p : Prop} : dc p = false ↔ ¬ p := ⟨fun h hp => (by rw [dc_true hp] at h; cases h), dc_false⟩
theorem dc_congr {p q : Prop} (h : p ↔ q) : dc p = dc q := by rw [propext h]
abbrev A3 := Int × Int × Int
abbrev g3 (l : List A3) (i : Nat) : A3 := l.getD i (0, 0, 0)
def inB (n a b : Int) : Bool := decide (a ≤ n) && decide (n ≤ b)
theorem inB_iff {n a b : Int} : inB n a b = true ↔ a ≤ n ∧ n ≤ b := by simp [inB]
theorem inB_not {n a b : Int} : inB n a b = false ↔ ¬ (a ≤ n ∧ n ≤ b) := by
  rw [← inB_iff]; cases inB n a b <;> simp

theorem sem_l1In (n a b : Int) (lvl : Nat) (S : Sto) : Sem Go.Proofs.Tryd.prog fid_spec_l1In lvl [iI n, iI a, iI b] S (iB (inB n a b)) S := by
  refine sem_of_chk k_spec_l1In trivial ?_
  simp only [c_spec_l1In, r_cons, r_nil, r_kont, r_seq1, r_fn2, r_rg, r_sq, r_rt, r_wpF, r_op1, r_op1g, r_gd, r_go1, r_mv, r_bi, r_lei, r_gei, r_pk, r_pkt, r_pkf, r_fin, r_kfe1, r_kcx, r_exps0, r_exps1, r_kex, r_exp1, r_expv2, ptd, lk, pt, xv, kv, kc, params, ↓reduceIte, Nat.reduceEqDiff, reduceCtorEq, List.length_cons, List.length_nil, Nat.reduceAdd, Nat.reduceLeDiff, Nat.reduceLT, true_and, and_true, decide_eq_true_eq, Bool.false_eq_true, Bool.not_true, Nat.zero_add]
  refine ite_of (fun h => ?_) (fun h => ?_) <;> simp [inB, h]
theorem sem_within (n a b : Int) (lvl : Nat) (S : Sto) : Sem Go.Proofs.Tryd.prog fid_impl_within lvl [iI n, iI a, iI b] S (iB (inB n a b)) S := by
  refine sem_of_chk k_impl_within trivial ?_
  simp only [c_impl_within, r_cons, r_nil, r_kont, r_seq1, r_fn2, r_rg, r_sq, r_rt, r_wpF, r_op1, r_op1g, r_gd, r_go1, r_mv, r_bi, r_lei, r_gei, r_pk, r_pkt, r_pkf, r_fin, r_kfe1, r_kcx, r_exps0, r_exps1, r_kex, r_exp1, r_expv2, ptd, lk, pt, xv, kv, kc, params, ↓reduceIte, Nat.reduceEqDiff, reduceCtorEq, List.length_cons, List.length_nil, Nat.reduceAdd, Nat.reduceLeDiff, Nat.reduceLT, true_and, and_true, decide_eq_true_eq, Bool.false_eq_true, Bool.not_true, Nat.zero_add]
  refine ite_of (fun h => ?_) (fun h => ?_) <;> simp [inB, h]

end Go.Fd

/-
  NUMBERS OF LIBRARY FUNCTIONS IN THIS PROGRAM, as the guide's shelf lays them (printed by lay.py out of the kit's own command).
-/
namespace Go.Proofs
open Go.Shelf
def Tryd.lays160_ren : Go.Shelf.Ren := ⟨fun | 160 => 77 | 232 => 88 | 231 => 87 | 227 => 89 | 234 => 91 | 233 => 90 | 236 => 93 | 235 => 92 | 228 => 97 | 271 => 100 | 151 => 99 | 197 => 98 | 120 => 104 | 152 => 103 | 260 => 102 | 137 => 105 | 119 => 106 | 224 => 107 | 225 => 108 | 217 => 109 | 266 => 110 | n => n, fun | 9 => 9 | 4 => 4 | 3 => 3 | 5 => 5 | 117 => 96 | 116 => 95 | 0 => 0 | 124 => 99 | 21 => 21 | 105 => 102 | 46 => 107 | 119 => 106 | 139 => 110 | 138 => 109 | n => n, fun | 3 => 0 | 4 => 1 | n => n⟩
theorem Tryd.lays160 : Go.Proofs.Lays.n160 Tryd.prog Tryd.lays160_ren := {
    mixed := by kernel_rfl,
    f119 := Tryd.func106.trans (congrArg some (by kernel_rfl)),
    f120 := Tryd.func104.trans (congrArg some (by kernel_rfl)),
    f137 := Tryd.func105.trans (congrArg some (by kernel_rfl)),
    f151 := Tryd.func99.trans (congrArg some (by kernel_rfl)),
    f152 := Tryd.func103.trans (congrArg some (by kernel_rfl)),
    f160 := Tryd.func77.trans (congrArg some (by kernel_rfl)),
    f197 := Tryd.func98.trans (congrArg some (by kernel_rfl)),
    f217 := Tryd.func109.trans (congrArg some (by kernel_rfl)),
    f224 := Tryd.func107.trans (congrArg some (by kernel_rfl)),
    f225 := Tryd.func108.trans (congrArg some (by kernel_rfl)),
    f227 := Tryd.func89.trans (congrArg some (by kernel_rfl)),
    f228 := Tryd.func97.trans (congrArg some (by kernel_rfl)),
    f231 := Tryd.func87.trans (congrArg some (by kernel_rfl)),
    f232 := Tryd.func88.trans (congrArg some (by kernel_rfl)),
    f233 := Tryd.func90.trans (congrArg some (by kernel_rfl)),
    f234 := Tryd.func91.trans (congrArg some (by kernel_rfl)),
    f235 := Tryd.func92.trans (congrArg some (by kernel_rfl)),
    f236 := Tryd.func93.trans (congrArg some (by kernel_rfl)),
    f260 := Tryd.func102.trans (congrArg some (by kernel_rfl)),
    f266 := Tryd.func110.trans (congrArg some (by kernel_rfl)),
    f271 := Tryd.func100.trans (congrArg some (by kernel_rfl)),
    t0 := Tryd.underlying0,
    a0 := Tryd.isAgg0,
    z0 := Tryd.sizeOf0,
    v0 := Tryd.zeroValue0,
    t3 := Tryd.underlying3,
    a3 := Tryd.isAgg3,
    z3 := Tryd.sizeOf3,
    v3 := Tryd.zeroValue3,
    t4 := Tryd.underlying4,
    a4 := Tryd.isAgg4,
    z4 := Tryd.sizeOf4,
    v4 := Tryd.zeroValue4,
    t5 := Tryd.underlying5,
    a5 := Tryd.isAgg5,
    z5 := Tryd.sizeOf5,
    v5 := Tryd.zeroValue5,
    t9 := Tryd.underlying9,
    a9 := Tryd.isAgg9,
    z9 := Tryd.sizeOf9,
    v9 := Tryd.zeroValue9,
    t21 := Tryd.underlying21,
    a21 := Tryd.isAgg21,
    z21 := Tryd.sizeOf21,
    v21 := Tryd.zeroValue21,
    t46 := Tryd.underlying107,
    a46 := Tryd.isAgg107,
    z46 := Tryd.sizeOf107,
    v46 := Tryd.zeroValue107,
    t105 := Tryd.underlying102,
    a105 := Tryd.isAgg102,
    z105 := Tryd.sizeOf102,
    v105 := Tryd.zeroValue102,
    t116 := Tryd.underlying95,
    a116 := Tryd.isAgg95,
    z116 := Tryd.sizeOf95,
    t117 := Tryd.underlying96,
    a117 := Tryd.isAgg96,
    z117 := Tryd.sizeOf96,
    v117 := Tryd.zeroValue96,
    t119 := Tryd.underlying106,
    a119 := Tryd.isAgg106,
    z119 := Tryd.sizeOf106,
    t124 := Tryd.underlying99,
    a124 := Tryd.isAgg99,
    z124 := Tryd.sizeOf99,
    v124 := Tryd.zeroValue99,
    t138 := Tryd.underlying109,
    a138 := Tryd.isAgg109,
    z138 := Tryd.sizeOf109,
    v138 := Tryd.zeroValue109,
    t139 := Tryd.underlying110,
    a139 := Tryd.isAgg110,
    z139 := Tryd.sizeOf110,
    v139 := Tryd.zeroValue110,
    g3 := by kernel_rfl,
    g4 := by kernel_rfl }
end Go.Proofs

/-
  NAMES AND SIGNATURES, BOTH SIDES. Own work.
-/
namespace Go.Fd
set_option maxRecDepth 20000

def callB (P : Program) (f : FuncId) : Bool := match P.funcs[f]? with | some fn => fn.body.isSome && !(fn.name == "runtime.NumGoroutine") | none => false

theorem callB_ok {P : Program} {f : FuncId} (h : callB P f = true) : Callable P f := by
  unfold callB at h
  split at h
  · rename_i fn hf
    simp only [Bool.and_eq_true, Bool.not_eq_true'] at h
    exact ⟨fn, hf, h.1, h.2⟩
  · cases h

abbrev AZ : ByteArray := ⟨#[97, 98, 99, 100, 101, 102, 103, 104, 105, 106, 107, 108, 109, 110, 111, 112, 113, 114, 115, 116, 117, 118, 119, 120, 121, 122]⟩

theorem sem_Trim (s : ByteArray) (hs : s.size ≤ 9223372036854775807) (lvl : Nat) (S : Sto) : Sem Go.Proofs.Tryd.prog fid_strings_Trim lvl [iS s, iS AZ] S (iS ⟨(Lib.trimS s.data.toList AZ.data.toList).toArray⟩) S :=
  sem_of_scal (xs := [.string s, .string AZ]) (callB_ok (by kernel_rfl)) rfl (fun w => Go.Proofs.Any.strings_Trim_laid Go.Proofs.Tryd.lays160 (by kernel_rfl) s AZ w hs (by decide) (Go.Proofs.ascii_of_all (by decide)))

/-- A name: one to four small letters. -/
def isNm (s : ByteArray) : Prop := (∀ b ∈ s.data.toList, 97 ≤ b.toNat ∧ b.toNat ≤ 122) ∧ 1 ≤ s.size ∧ s.size ≤ 4

theorem size_list (s : ByteArray) : s.size = s.data.toList.length := by rw [Array.length_toList]; rfl

theorem az_mem (b : UInt8) : b ∈ AZ.data.toList ↔ 97 ≤ b.toNat ∧ b.toNat ≤ 122 := by
  have : ∀ n : Fin 256, (UInt8.ofNat n.val) ∈ AZ.data.toList ↔ 97 ≤ n.val ∧ n.val ≤ 122 := by decide +kernel
  have h : UInt8.ofNat b.toNat ∈ AZ.data.toList ↔ 97 ≤ b.toNat ∧ b.toNat ≤ 122 := this ⟨b.toNat, b.toNat_lt⟩
  rw [show UInt8.ofNat b.toNat = b from UInt8.ofNat_toNat] at h
  exact h

theorem dw_nil {p : UInt8 → Bool} : ∀ {l : List UInt8}, l.dropWhile p = [] ↔ ∀ b ∈ l, p b = true
  | [] => by simp
  | x :: r => by
    simp only [List.dropWhile_cons, List.mem_cons, forall_eq_or_imp]
    cases h : p x with
    | true => simp [dw_nil (l := r)]
    | false => simp

theorem tw_mem {p : UInt8 → Bool} {b : UInt8} : ∀ {l : List UInt8}, b ∈ l.takeWhile p → p b = true
  | [], h => by simp at h
  | x :: r, h => by
    rw [List.takeWhile_cons] at h
    split at h
    · rename_i hx
      rcases List.mem_cons.1 h with rfl | h
      · exact hx
      · exact tw_mem h
    · cases h

theorem drop_nil {l cs : List UInt8} (h : ∀ b ∈ l, b ∈ cs) : l.dropWhile (cs.contains ·) = [] := by
  rw [dw_nil]
  intro b hb
  simpa using h b hb

theorem trimS_nil {l cs : List UInt8} : Lib.trimS l cs = [] ↔ ∀ b ∈ l, b ∈ cs := by
  unfold Lib.trimS Lib.trimLeftS Lib.trimRightS
  constructor
  · intro h b hb
    rw [dw_nil] at h
    have hrev : ∀ x ∈ (l.reverse.dropWhile (cs.contains ·)), x ∈ cs := fun x hx => by
      have := h x (by simpa using hx)
      simpa using this
    have hsplit : l.reverse = l.reverse.takeWhile (cs.contains ·) ++ l.reverse.dropWhile (cs.contains ·) := (List.takeWhile_append_dropWhile).symm
    have hb2 : b ∈ l.reverse := by simpa using hb
    rw [hsplit] at hb2
    rcases List.mem_append.1 hb2 with h1 | h1
    · have := tw_mem h1
      simpa using this
    · exact hrev b h1
  · intro h
    rw [drop_nil (l := l.reverse) (fun b hb => h b (by simpa using hb))]
    rfl

theorem sem_l2Name (s : ByteArray) (hs : s.size ≤ 9223372036854775807) (lvl : Nat) (S : Sto) : Sem Go.Proofs.Tryd.prog fid_spec_l2Name lvl [iS s] S (iB (dc (isNm s))) S := by
  refine sem_of_chk k_spec_l2Name trivial ?_
  simp only [c_spec_l2Name, r_cons, r_nil, r_kont, r_seq1, r_rg, r_sq, r_bl, r_wpF, r_op1, r_mv, ptd, pt, xv, kv, kc, params, ↓reduceIte, Nat.reduceEqDiff, reduceCtorEq, List.length_cons, List.length_nil, Nat.reduceLeDiff, Nat.reduceLT, true_and, Nat.zero_add]
  refine wp_cnt (α := Unit) s.size (fun j _ => [(3, iI j)]) (fun _ _ => []) (fun j _ => ∀ b ∈ s.data.toList.take j, 97 ≤ b.toNat ∧ b.toNat ≤ 122) () (by simp only [r_clean, r_okm4, r_okE0, r_okE1, r_okL0, ↓reduceIte, Nat.reduceEqDiff, reduceCtorEq, memB, keepB, keepOB, Bool.false_eq_true, and_self]) (by (simp only [r_fgt, r_chg, r_pts0, r_pts1, r_ptOs0, pt, ↓reduceIte, Nat.reduceEqDiff, reduceCtorEq, Nat.reduceLT, memB, keepB, keepOB, Bool.false_eq_true, Int.cast_ofNat_Int]) <;> rfl) (fun b hb => by simp at hb) ?_
  intro j _ hj hA
  simp only [r_cons, r_nil, r_kont, r_seq1, r_seq2, r_blk2, r_sk, r_rg, r_sq, r_bl, r_ex, r_cd, r_cd2, r_op1, r_go1, r_mv, r_bi, r_lti, r_lg, r_lg1, r_ixn, r_ix, r_ix1, r_kcn, r_sn0, r_sn1, r_ca, r_ca1, r_fgt, r_round2, r_chg, r_pts0, r_pts1, r_ptOs0, ptd, lk, pt, xv, kv, kc, ↓reduceIte, Nat.reduceEqDiff, reduceCtorEq, Nat.reduceLT, true_and, decide_eq_true_eq, List.map_cons, List.map_nil, List.cons_append, List.nil_append, mens, men, memB, keepB, keepOB, Bool.false_eq_true, Int.toNat_natCast, Int.natCast_nonneg, and_self]
  refine ite_of (fun hlt => ?_) (fun hge => ?_)
  · have hja : j < s.data.toList.length := by rw [← size_list]; omega
    have ga : s.data.toList[j]? = some (s.data.toList[j]) := List.getElem?_eq_getElem hja
    have hno : ¬ (97 ≤ (s.data.toList[j]).toNat ∧ (s.data.toList[j]).toNat ≤ 122) → ¬ isNm s := fun h hn => h (hn.1 _ (List.getElem_mem hja))
    by_cases h1 : ((s.data.toList[j]).toNat : Int) < 97
    · simp only [ga, h1, r_cons, r_nil, r_kont, r_seq1, r_seq3, r_blk3, r_fn2, r_rg, r_sq, r_rt, r_cd, r_cd2, r_op1, r_op1g, r_gd, r_go1, r_mv, r_bi, r_lti, r_pk, r_pkt, r_op3, r_ixb, r_fin, r_kfe1, r_kcx, r_exps0, r_exps1, r_kex, r_exp1, r_expv2, r_round3, r_lt1, ptd, lk, pt, xv, kv, kc, ↓reduceIte, Nat.reduceEqDiff, reduceCtorEq, Nat.reduceLT, and_true, decide_true, Bool.true_eq_false, Bool.not_false]
      rw [dc_false (hno (by omega))]
    by_cases h2 : (122 : Int) < (s.data.toList[j]).toNat
    · simp only [ga, h1, h2, r_cons, r_nil, r_kont, r_seq1, r_seq3, r_blk3, r_fn2, r_rg, r_sq, r_rt, r_cd, r_cd2, r_op1, r_op1g, r_gd, r_go1, r_mv, r_bi, r_lti, r_gti, r_pk, r_pkf, r_op3, r_ixn, r_ixb, r_ix, r_ix1, r_fin, r_kfe1, r_kcx, r_exps0, r_exps1, r_kex, r_exp1, r_expv2, r_round3, r_lt1, ptd, lk, pt, xv, kv, kc, ↓reduceIte, Nat.reduceEqDiff, reduceCtorEq, Nat.reduceLT, true_and, and_true, decide_true, decide_false, Int.toNat_natCast, Int.natCast_nonneg]
      rw [dc_false (hno (by omega))]
    · simp only [ga, h1, h2, r_cons, r_nil, r_kont, r_seq1, r_blk1, r_sk, r_rg, r_cd, r_cd2, r_op1, r_op1g, r_gd, r_go1, r_mv, r_bi, r_add0, r_lti, r_gti, r_pk, r_pkf, r_op3, r_ixn, r_ixb, r_ix, r_ix1, r_fgt, r_clean, r_okm4, r_okE0, r_okE1, r_okL0, r_round1, r_lt1, ptd, lk, pt, xv, kv, kc, ↓reduceIte, Nat.reduceEqDiff, reduceCtorEq, Nat.reduceLT, true_and, decide_false, memB, keepB, keepOB, Bool.false_eq_true, Int.toNat_natCast, Int.natCast_nonneg, and_self]
      refine ⟨by rw [fits_i64]; omega, cntJ_intro () (by omega) rfl ?_⟩
      intro b hb
      rw [List.take_succ_eq_append_getElem hja] at hb
      rcases List.mem_append.1 hb with h | h
      · exact hA b h
      · have : b = s.data.toList[j] := by simpa using h
        subst this
        omega
  · have : j = s.size := by omega
    subst this
    rw [size_list, List.take_length] at hA
    refine kca_intro (sem_l1In s.size 1 4) ?_
    simp only [r_cons, r_nil, r_kont, r_seq1, r_fn2, r_rt, r_op1, r_mv, r_fin, r_kfe1, r_kcx, r_exps0, r_exps1, r_kex, r_exp1, r_expv2, r_lt1, ptd, keyOf, freshK, lk, pt, addO, xv, ↓reduceIte, Nat.reduceEqDiff, Nat.reduceMul, reduceCtorEq, List.length_nil, Nat.reduceLT, true_and, and_true, noSh, isSc, impv, or_true]
    rw [dc_congr (q := 1 ≤ s.size ∧ s.size ≤ 4) ⟨fun h => h.2, fun h => ⟨hA, h⟩⟩]
    by_cases h : 1 ≤ s.size ∧ s.size ≤ 4
    · rw [dc_true h, inB_iff.2 (by omega)]
    · rw [dc_false h, inB_not.2 (by omega)]

theorem sem_isName (s : ByteArray) (hs : s.size ≤ 9223372036854775807) (lvl : Nat) (S : Sto) : Sem Go.Proofs.Tryd.prog fid_impl_isName lvl [iS s] S (iB (dc (isNm s))) S := by
  refine sem_of_chk k_impl_isName trivial ?_
  simp only [c_impl_isName, r_cons, r_nil, r_kont, r_seq1, r_rg, r_sq, r_wpF, r_op1, r_go1, r_mv, r_lg, r_lg1, r_kcn, r_sn0, r_sn1, r_ca, r_ca1, ptd, lk, pt, xv, kv, kc, params, ↓reduceIte, Nat.reduceEqDiff, reduceCtorEq, List.length_cons, List.length_nil, Nat.reduceLeDiff, Nat.reduceLT, true_and, List.map_cons, List.map_nil, List.cons_append, List.nil_append, mens, men, Nat.zero_add, and_self]
  refine kca_intro (sem_within s.size 1 4) ?_
  simp only [r_cons, r_nil, r_kont, r_seq1, r_fn2, r_rt, r_op1, r_op1g, r_gd, r_go1, r_mv, r_pk, r_pkf, r_kcn, r_sn0, r_sn1, r_ca, r_ca1, r_fin, r_kfe1, r_kcx, r_exps0, r_exps1, r_kex, r_exp1, r_expv2, ptd, keyOf, freshK, lk, pt, addO, xv, kv, kc, ↓reduceIte, Nat.reduceEqDiff, Nat.reduceMul, reduceCtorEq, List.length_nil, Nat.reduceLT, true_and, and_true, List.map_cons, List.map_nil, List.cons_append, List.nil_append, mens, men, noSh, isSc, impv, or_true, Bool.false_eq_true, Bool.not_true, and_self]
  cases hin : inB (s.size : Int) 1 4 with
  | false =>
    have : ¬ isNm s := fun h => (inB_not.1 hin) (by have := h.2; omega)
    rw [dc_false this]
    simp only [↓reduceIte, Bool.false_eq_true]
  | true =>
    have hin' := inB_iff.1 hin
    simp only [↓reduceIte]
    refine kca_intro (sem_Trim s hs) ?_
    simp only [r_cons, r_nil, r_kont, r_seq1, r_fn2, r_rt, r_op1, r_op1g, r_gd, r_go1, r_mv, r_bi, r_eqs, r_pk, r_pkt, r_fin, r_kfe1, r_kcx, r_exps0, r_exps1, r_kex, r_exp1, r_expv2, ptd, keyOf, freshK, lk, pt, addO, xv, kv, kc, ↓reduceIte, Nat.reduceEqDiff, Nat.reduceMul, reduceCtorEq, List.length_nil, Nat.reduceLT, true_and, and_true, noSh, isSc, impv, or_true]
    by_cases h : isNm s
    · have : Lib.trimS s.data.toList AZ.data.toList = [] := trimS_nil.2 (fun b hb => (az_mem b).2 (h.1 b hb))
      rw [dc_true h, this]
      rfl
    · have : ¬ Lib.trimS s.data.toList AZ.data.toList = [] := fun e => h ⟨fun b hb => (az_mem b).1 (trimS_nil.1 e b hb), by omega, by omega⟩
      rw [dc_false h]
      have h2 : ¬ (⟨(Lib.trimS s.data.toList AZ.data.toList).toArray⟩ : ByteArray) = ⟨#[]⟩ := fun e => this (by
        have := congrArg (fun b : ByteArray => b.data.toList) e
        simpa using this)
      simp [h2]

/-- A signature: each control has a name, few ports and a kind; no two have one name. -/
def ctlOK (c : TControl) : Prop := isNm c.name ∧ (0 ≤ c.ports ∧ c.ports ≤ 3) ∧ 0 ≤ c.kind_ ∧ c.kind_ ≤ 2

def sigAt (sig : List TControl) (i : Nat) : Prop := ∀ h : i < sig.length, ctlOK sig[i] ∧ ∀ k (hk : k < i), (sig[k]'(by omega)).name ≠ sig[i].name

def sigOK (sig : List TControl) : Prop := (∀ i, sigAt sig i) ∧ 1 ≤ sig.length ∧ sig.length ≤ 6

theorem sem_IsSignature_1 (c d : TControl) (lvl : Nat) (S : Sto) : Sem Go.Proofs.Tryd.prog fid_impl_IsSignature_1 lvl [.ag ((cControl d).map .tr), .ta (cControl c)] S (iB (decide (d.name = c.name))) S := by
  refine sem_of_chk k_impl_IsSignature_1 trivial ?_
  simp only [c_impl_IsSignature_1, cControl, r_cons, r_nil, r_kont, r_seq1, r_fn2, r_rg, r_sq, r_rt, r_wpF, r_op1, r_go1, r_mv, r_bt, r_bt1, r_bi, r_eqs, r_op3, r_fa, r_fa1, r_ltr, r_ld, r_ld1, r_fin, r_kfe1, r_kcx, r_exps0, r_exps1, r_kex, r_exp1, r_expv2, ptd, lk, pt, xv, kv, kc, params, ↓reduceIte, Nat.reduceEqDiff, reduceCtorEq, List.length_cons, List.length_nil, Nat.reduceAdd, Nat.reduceLeDiff, Nat.reduceLT, List.map_cons, List.map_nil, List.getElem?_cons_zero, List.drop_zero, List.all_cons, List.all_nil, isCell, Bool.and_self, cellsOf, totr, totrs, tocs, Nat.zero_add, and_self]

theorem g_ixFControl : chkF Go.Proofs.Tryd.prog fid_slices_IndexFunc_impl_Control_impl_Control (gIxF 3 (some 3)) = true := by kernel_rfl

theorem g_coFControl : chkF Go.Proofs.Tryd.prog fid_slices_ContainsFunc_impl_Control_impl_Control (gCoF fid_slices_IndexFunc_impl_Control_impl_Control) = true := by kernel_rfl

theorem sem_l2Sig (sig : List TControl) (hl : sig.length ≤ 9223372036854775807) (hb : ∀ y ∈ sig, bdControl 9223372036854775807 y) (lvl : Nat) (S : Sto) : Sem Go.Proofs.Tryd.prog fid_spec_l2Sig lvl [.tr (.sl (sig.map cControl))] S (iB (dc (sigOK sig))) S := by
  refine sem_of_chk k_spec_l2Sig trivial ?_
  simp only [c_spec_l2Sig, r_cons, r_nil, r_kont, r_seq1, r_rg, r_sq, r_bl, r_wpF, r_op1, r_mv, ptd, pt, xv, kv, kc, params, ↓reduceIte, Nat.reduceEqDiff, reduceCtorEq, List.length_cons, List.length_nil, Nat.reduceLeDiff, Nat.reduceLT, true_and, Nat.zero_add]
  refine wp_cnt (α := Unit) sig.length (fun j _ => [(3, iI j)]) (fun _ _ => []) (fun j _ => ∀ i, i < j → sigAt sig i) () (by simp only [r_clean, r_okm4, r_okE0, r_okE1, r_okL0, ↓reduceIte, Nat.reduceEqDiff, reduceCtorEq, memB, keepB, keepOB, Bool.false_eq_true, and_self]) (by (simp only [r_fgt, r_chg, r_pts0, r_pts1, r_ptOs0, pt, ↓reduceIte, Nat.reduceEqDiff, reduceCtorEq, Nat.reduceLT, memB, keepB, keepOB, Bool.false_eq_true, Int.cast_ofNat_Int]) <;> rfl) (fun i hi => by omega) ?_
  intro j _ hj hA
  simp only [List.length_map, r_cons, r_nil, r_kont, r_seq1, r_seq2, r_blk2, r_sk, r_rg, r_sq, r_bl, r_ex, r_cd, r_cd2, r_op1, r_go1, r_mv, r_bi, r_lti, r_ln, r_ln1, r_ixn, r_ia, r_ia1, r_kcn, r_sn0, r_sn1, r_ca, r_ca1, r_fgt, r_round2, r_chg, r_pts0, r_pts1, r_ptOs0, ptd, lk, pt, xv, kv, kc, ↓reduceIte, Nat.reduceEqDiff, reduceCtorEq, Nat.reduceLT, true_and, decide_eq_true_eq, List.map_cons, List.map_nil, List.cons_append, List.nil_append, mens, men, memB, keepB, keepOB, Bool.false_eq_true, Int.toNat_natCast, Int.natCast_nonneg, List.length_map, and_self]
  refine ite_of (fun hlt => ?_) (fun hge => ?_)
  · have hja : j < sig.length := by omega
    have ga := getA (c := cControl) hja
    have hbj : sig[j].name.size ≤ 9223372036854775807 := hb _ (List.getElem_mem hja)
    have hno : ¬ ctlOK sig[j] → ¬ sigOK sig := fun h hs => h (hs.1 j hja).1
    simp only [ga, cControl, r_cons, r_kont, r_op1, r_go1, r_op3, r_fa, r_fa1, r_iae, r_ltr, r_ld, r_ld1, r_kcn, r_sn0, r_sn1, r_ca, r_ca1, ptd, lk, pt, xv, ↓reduceIte, Nat.reduceEqDiff, reduceCtorEq, List.length_cons, List.length_nil, Nat.reduceAdd, Nat.reduceLT, true_and, List.map_cons, List.map_nil, List.cons_append, List.nil_append, List.getElem?_cons_zero, List.drop_zero, mens, men, Nat.zero_add, and_self]
    refine kca_intro (sem_l2Name sig[j].name hbj) ?_
    simp only [ga, cControl, r_cons, r_nil, r_kont, r_seq1, r_seq3, r_blk3, r_fn2, r_rg, r_sq, r_rt, r_cd, r_cd2, r_op1, r_op1g, r_gd, r_go1, r_mv, r_nt, r_nt1, r_pk, r_pkt, r_op3, r_fa, r_fa1, r_ixn, r_ia, r_iae, r_ia1, r_ltr, r_ld, r_ld1, r_kcn, r_sn0, r_sn1, r_ca, r_ca1, r_fin, r_kfe1, r_kcx, r_exps0, r_exps1, r_kex, r_exp1, r_expv2, r_round3, r_lt1, ptd, keyOf, freshK, lk, pt, addO, xv, kv, kc, ↓reduceIte, Nat.reduceEqDiff, Nat.reduceMul, reduceCtorEq, List.length_cons, List.length_nil, Nat.reduceAdd, Nat.reduceLT, true_and, and_true, List.map_cons, List.map_nil, List.cons_append, List.nil_append, List.getElem?_cons_zero, List.drop_succ_cons, List.drop_zero, mens, men, noSh, isSc, impv, or_true, Bool.true_eq_false, Bool.not_false, Int.toNat_natCast, Nat.zero_add, Bool.not_eq_false', Int.natCast_nonneg, and_self]
    cases hn : dc (isNm sig[j].name) with
    | false =>
      simp only [↓reduceIte, Bool.false_eq_true]
      rw [dc_false (hno fun h => dc_not.1 hn h.1)]
    | true =>
      have hn' := dc_iff.1 hn
      simp only [↓reduceIte, Bool.not_true]
      refine kca_intro (sem_l1In sig[j].ports 0 3) ?_
      simp only [ga, cControl, r_cons, r_nil, r_kont, r_seq1, r_seq3, r_blk3, r_fn2, r_rg, r_sq, r_rt, r_cd, r_cd2, r_op1, r_op1g, r_gd, r_go1, r_mv, r_nt, r_nt1, r_pk, r_pkt, r_pkf, r_op3, r_fa, r_fa1, r_ixn, r_ia, r_iae, r_ia1, r_ltr, r_ld, r_ld1, r_kcn, r_sn0, r_sn1, r_ca, r_ca1, r_fin, r_kfe1, r_kcx, r_exps0, r_exps1, r_kex, r_exp1, r_expv2, r_round3, r_lt1, ptd, keyOf, freshK, lk, pt, addO, xv, kv, kc, ↓reduceIte, Nat.reduceEqDiff, Nat.reduceMul, reduceCtorEq, List.length_cons, List.length_nil, Nat.reduceAdd, Nat.reduceLT, true_and, and_true, List.map_cons, List.map_nil, List.cons_append, List.nil_append, List.getElem?_cons_zero, List.drop_succ_cons, List.drop_zero, mens, men, noSh, isSc, impv, or_true, Bool.true_eq_false, Bool.not_false, Int.toNat_natCast, Nat.zero_add, Bool.not_eq_false', Int.natCast_nonneg, and_self]
      cases hp : inB sig[j].ports 0 3 with
      | false =>
        simp only [↓reduceIte, Bool.false_eq_true]
        rw [dc_false (hno fun h => inB_not.1 hp h.2.1)]
      | true =>
        have hp' := inB_iff.1 hp
        simp only [↓reduceIte, Bool.not_true]
        refine kca_intro (sem_l1In sig[j].kind_ 0 2) ?_
        simp only [r_cons, r_nil, r_kont, r_seq1, r_seq3, r_blk3, r_fn2, r_sk, r_rg, r_sq, r_bl, r_rt, r_cd, r_cd2, r_op1, r_op1g, r_gd, r_go1, r_mv, r_nt, r_nt1, r_pk, r_pkf, r_fin, r_kfe1, r_kcx, r_exps0, r_exps1, r_kex, r_exp1, r_expv2, r_round3, r_lt1, ptd, keyOf, freshK, lk, pt, addO, xv, kv, kc, ↓reduceIte, Nat.reduceEqDiff, Nat.reduceMul, reduceCtorEq, List.length_nil, Nat.reduceLT, true_and, and_true, noSh, isSc, impv, or_true, Bool.not_eq_true']
        cases hk : inB sig[j].kind_ 0 2 with
        | false =>
          simp only [↓reduceIte]
          rw [dc_false (hno fun h => inB_not.1 hk h.2.2)]
        | true =>
          have hk' := inB_iff.1 hk
          simp only [↓reduceIte, Bool.true_eq_false, Bool.not_true]
          refine wp_cnt (α := Unit) j (fun k _ => [(4, iI k)]) (fun _ _ => []) (fun k _ => ∀ i (hi : i < k), k ≤ j → ∀ hi2 : i < sig.length, (sig[i]'hi2).name ≠ sig[j].name) () (by simp only [r_clean, r_okm4, r_okE0, r_okE1, r_okL0, ↓reduceIte, Nat.reduceEqDiff, reduceCtorEq, memB, keepB, keepOB, Bool.false_eq_true, and_self]) (by (simp only [r_fgt, r_chg, r_pts0, r_pts1, r_ptOs0, pt, ↓reduceIte, Nat.reduceEqDiff, reduceCtorEq, Nat.reduceLT, memB, keepB, keepOB, Bool.false_eq_true, Int.cast_ofNat_Int]) <;> rfl) (fun i hi => by omega) ?_
          intro k _ hkj hB
          simp only [r_cons, r_nil, r_kont, r_seq1, r_seq2, r_blk1, r_blk2, r_sk, r_rg, r_sq, r_bl, r_ex, r_cd, r_cd2, r_op1, r_go1, r_mv, r_bi, r_add0, r_lti, r_ixn, r_ia, r_ia1, r_fgt, r_clean, r_okm4, r_okE0, r_okE1, r_okL0, r_round1, r_round2, r_chg, r_pts0, r_pts1, r_ptOs0, ptd, lk, pt, xv, kv, kc, ↓reduceIte, Nat.reduceEqDiff, reduceCtorEq, Nat.reduceLT, true_and, decide_eq_true_eq, memB, keepB, keepOB, Bool.false_eq_true, Int.toNat_natCast, Int.natCast_nonneg, ne_eq, and_self]
          refine ite_of (fun hlt2 => ?_) (fun hge2 => ?_)
          · have hka : k < sig.length := by omega
            have gb := getA (c := cControl) hka
            simp only [ga, gb, cControl, r_cons, r_nil, r_kont, r_seq1, r_seq3, r_blk1, r_blk3, r_fn2, r_sk, r_rg, r_sq, r_rt, r_cd, r_cd2, r_op1, r_go1, r_mv, r_bi, r_add0, r_eqs, r_op3, r_fa, r_fa1, r_ixn, r_ia, r_iae, r_ia1, r_ltr, r_ld, r_ld1, r_fin, r_kfe1, r_kcx, r_exps0, r_exps1, r_kex, r_exp1, r_expv2, r_fgt, r_clean, r_okm4, r_okE0, r_okE1, r_okL0, r_round1, r_round3, r_lt1, ptd, lk, pt, xv, kv, kc, ↓reduceIte, Nat.reduceEqDiff, reduceCtorEq, List.length_cons, List.length_nil, Nat.reduceAdd, Nat.reduceLT, true_and, and_true, decide_eq_true_eq, List.getElem?_cons_zero, List.drop_zero, memB, keepB, keepOB, Bool.false_eq_true, Int.toNat_natCast, Nat.zero_add, Int.natCast_nonneg, and_self]
            refine ite_of (fun he => ?_) (fun hne => ?_)
            · rw [dc_false (fun hs : sigOK sig => (hs.1 j hja).2 k (by omega) he)]
            · refine ⟨by rw [fits_i64]; omega, cntJ_intro () (by omega) rfl (fun i hi _ hi2 => ?_)⟩
              by_cases e : i = k
              · subst e; exact hne
              · exact hB i (by omega) (by omega) hi2
          · have : k = j := by omega
            subst this
            refine ⟨by rw [fits_i64]; omega, cntJ_intro () hja rfl (fun i hi => ?_)⟩
            by_cases e : i = k
            · subst e
              exact fun h => ⟨⟨hn', hp', hk'⟩, fun q hq => hB q hq (Nat.le_refl _) (by omega)⟩
            · exact hA i (by omega)
  · have : j = sig.length := by omega
    subst this
    refine kca_intro (sem_l1In sig.length 1 6) ?_
    simp only [r_cons, r_nil, r_kont, r_seq1, r_fn2, r_rt, r_op1, r_mv, r_fin, r_kfe1, r_kcx, r_exps0, r_exps1, r_kex, r_exp1, r_expv2, r_lt1, ptd, keyOf, freshK, lk, pt, addO, xv, ↓reduceIte, Nat.reduceEqDiff, Nat.reduceMul, reduceCtorEq, List.length_nil, Nat.reduceLT, true_and, and_true, noSh, isSc, impv, or_true]
    have hall : ∀ i, sigAt sig i := fun i h => hA i h h
    rw [dc_congr (q := 1 ≤ sig.length ∧ sig.length ≤ 6) ⟨fun h => h.2, fun h => ⟨hall, h⟩⟩]
    by_cases h : 1 ≤ sig.length ∧ sig.length ≤ 6
    · rw [dc_true h, inB_iff.2 (by omega)]
    · rw [dc_false h, inB_not.2 (by omega)]

theorem sem_impl_IsSignature (sig : List TControl) (hl : sig.length ≤ 9223372036854775807) (hb : ∀ y ∈ sig, bdControl 9223372036854775807 y) (lvl : Nat) (S : Sto) : Sem Go.Proofs.Tryd.prog fid_impl_IsSignature lvl [.tr (.sl (sig.map cControl))] S (iB (dc (sigOK sig))) S := by
  refine sem_of_chk k_impl_IsSignature trivial ?_
  simp only [c_impl_IsSignature, List.length_map, r_cons, r_nil, r_kont, r_seq1, r_rg, r_sq, r_wpF, r_op1, r_go1, r_mv, r_ln, r_ln1, r_kcn, r_sn0, r_sn1, r_ca, r_ca1, ptd, lk, pt, xv, kv, kc, params, ↓reduceIte, Nat.reduceEqDiff, reduceCtorEq, List.length_cons, List.length_nil, Nat.reduceLeDiff, Nat.reduceLT, true_and, List.map_cons, List.map_nil, List.cons_append, List.nil_append, mens, men, Nat.zero_add, List.length_map, and_self]
  refine kca_intro (sem_within sig.length 1 6) ?_
  simp only [List.length_map, r_cons, r_nil, r_kont, r_seq1, r_seq3, r_fn2, r_sk, r_rg, r_sq, r_bl, r_rt, r_cd, r_cd2, r_op1, r_go1, r_mv, r_nt, r_nt1, r_ln, r_ln1, r_fin, r_kfe1, r_kcx, r_exps0, r_exps1, r_kex, r_exp1, r_expv2, ptd, keyOf, freshK, lk, pt, addO, xv, kv, kc, ↓reduceIte, Nat.reduceEqDiff, Nat.reduceMul, reduceCtorEq, List.length_nil, Nat.reduceLT, true_and, and_true, noSh, isSc, impv, or_true, Bool.not_eq_true', List.length_map]
  refine ite_of (fun h => ?_) (fun h => ?_)
  · rw [dc_false (fun hs : sigOK sig => (inB_not.1 h) (by have := hs.2; omega))]
  have hln := inB_iff.1 (by simpa using h)
  refine wp_cnt (α := Unit) sig.length (fun j _ => [(11, iI j)]) (fun _ _ => []) (fun j _ => ∀ i, i < j → sigAt sig i) () (by simp only [r_clean, r_okm4, r_okE0, r_okE1, r_okL0, ↓reduceIte, Nat.reduceEqDiff, reduceCtorEq, memB, keepB, keepOB, Bool.false_eq_true, and_self]) (by (simp only [r_fgt, r_chg, r_pts0, r_pts1, r_ptOs0, pt, ↓reduceIte, Nat.reduceEqDiff, reduceCtorEq, Nat.reduceLT, memB, keepB, keepOB, Bool.false_eq_true, Int.cast_ofNat_Int]) <;> rfl) (fun i hi => by omega) ?_
  intro j _ hj hA
  simp only [r_cons, r_nil, r_kont, r_seq1, r_seq2, r_blk2, r_fn2, r_sk, r_rg, r_sq, r_bl, r_ex, r_rt, r_cd, r_cd2, r_op1, r_go1, r_mv, r_bi, r_lti, r_ixn, r_ia, r_ia1, r_fin, r_kfe1, r_kcx, r_exps0, r_exps1, r_kex, r_exp1, r_expv2, r_fgt, r_round2, r_chg, r_pts0, r_pts1, r_ptOs0, ptd, lk, pt, xv, kv, kc, ↓reduceIte, Nat.reduceEqDiff, reduceCtorEq, Nat.reduceLT, true_and, and_true, decide_eq_true_eq, memB, keepB, keepOB, Bool.false_eq_true, Int.toNat_natCast, Int.natCast_nonneg]
  refine ite_of (fun hlt => ?_) (fun hge => ?_)
  · have hja : j < sig.length := by omega
    have ga := getA (c := cControl) hja
    have hbj : sig[j].name.size ≤ 9223372036854775807 := hb _ (List.getElem_mem hja)
    have hno : ¬ ctlOK sig[j] → ¬ sigOK sig := fun h hs => h (hs.1 j hja).1
    simp only [ga, cControl, r_cons, r_nil, r_kont, r_seq1, r_rg, r_sq, r_op1, r_go1, r_mv, r_al, r_op3, r_fa, r_fa2, r_iae, r_pack, r_setOb, r_lab, r_ld, r_ld2, r_ld4, r_kcn, r_sn0, r_sn1, r_ca, r_ca1, r_st, r_st1, r_stb, r_setAt0, r_setAt1, r_lows0, r_lows1, r_low1, r_lt1, zfill, zobs, ptd, keyOf, freshK, lk, pt, lkO, ptO, addO, xv, kc, ↓reduceIte, Nat.reduceEqDiff, Nat.reduceMul, reduceCtorEq, List.length_cons, List.length_nil, Nat.reduceAdd, Nat.reduceLT, true_and, List.map_cons, List.map_nil, List.cons_append, List.nil_append, List.getElem?_cons_zero, List.take_succ_cons, List.take_zero, mens, men, List.all_cons, List.all_nil, isCell, Bool.and_self, cellsOf, Nat.zero_add, Nat.add_zero, List.set_cons_zero, List.set_cons_succ, Nat.le_refl, and_self]
    refine kca_intro (sem_isName sig[j].name hbj) ?_
    simp only [r_cons, r_nil, r_kont, r_seq1, r_seq3, r_blk3, r_fn2, r_rg, r_sq, r_rt, r_cd, r_cd2, r_op1, r_op1g, r_gd, r_go1, r_mv, r_nt, r_nt1, r_pk, r_pkt, r_op3, r_fa, r_fa2, r_pack, r_lab, r_ld, r_ld2, r_kcn, r_sn0, r_sn1, r_ca, r_ca1, r_fin, r_kfe1, r_kcx, r_exps0, r_exps1, r_kex, r_exp1, r_expv2, r_round3, r_lt1, ptd, keyOf, freshK, lk, pt, lkO, addO, xv, kv, kc, ↓reduceIte, Nat.reduceEqDiff, Nat.reduceMul, reduceCtorEq, List.length_nil, Nat.reduceLT, true_and, and_true, List.map_cons, List.map_nil, List.cons_append, List.nil_append, List.getElem?_cons_zero, List.getElem?_cons_succ, mens, men, noSh, isSc, impv, or_true, Bool.true_eq_false, Bool.not_false, Nat.zero_add, Bool.not_eq_false', and_self]
    cases hn : dc (isNm sig[j].name) with
    | false =>
      simp only [↓reduceIte, Bool.false_eq_true]
      rw [dc_false (hno fun h => dc_not.1 hn h.1)]
    | true =>
      have hn' := dc_iff.1 hn
      simp only [↓reduceIte, Bool.not_true]
      refine kca_intro (sem_within sig[j].ports 0 3) ?_
      simp only [r_cons, r_nil, r_kont, r_seq1, r_seq3, r_blk3, r_fn2, r_rg, r_sq, r_rt, r_cd, r_cd2, r_op1, r_op1g, r_gd, r_go1, r_mv, r_nt, r_nt1, r_pk, r_pkt, r_pkf, r_op3, r_fa, r_fa2, r_pack, r_lab, r_ld, r_ld2, r_kcn, r_sn0, r_sn1, r_ca, r_ca1, r_fin, r_kfe1, r_kcx, r_exps0, r_exps1, r_kex, r_exp1, r_expv2, r_round3, r_lt1, ptd, keyOf, freshK, lk, pt, lkO, addO, xv, kv, kc, ↓reduceIte, Nat.reduceEqDiff, Nat.reduceMul, reduceCtorEq, List.length_nil, Nat.reduceLT, true_and, and_true, List.map_cons, List.map_nil, List.cons_append, List.nil_append, List.getElem?_cons_zero, List.getElem?_cons_succ, mens, men, noSh, isSc, impv, or_true, Bool.true_eq_false, Bool.not_false, Nat.zero_add, Bool.not_eq_false', and_self]
      cases hp : inB sig[j].ports 0 3 with
      | false =>
        simp only [↓reduceIte, Bool.false_eq_true]
        rw [dc_false (hno fun h => inB_not.1 hp h.2.1)]
      | true =>
        have hp' := inB_iff.1 hp
        simp only [↓reduceIte, Bool.not_true]
        refine kca_intro (sem_within sig[j].kind_ 0 2) ?_
        simp only [r_cons, r_nil, r_kont, r_seq1, r_seq3, r_blk3, r_fn2, r_rg, r_sq, r_rt, r_cd, r_cd2, r_op1, r_op1g, r_gd, r_go1, r_mv, r_nt, r_nt1, r_mf, r_mf1, r_pk, r_pkt, r_pkf, r_pack, r_bn0, r_bn1, r_sxt, r_sxt2, r_sxt3, r_sx, r_sx1, r_kcn, r_kfnn, r_sn0, r_sn1, r_sn4, r_ca, r_ca1, r_fin, r_kfe1, r_kcx, r_exps0, r_exps1, r_kex, r_exp1, r_expv2, r_round3, r_kabn, r_sn9, r_kta, r_snb, r_kct, r_ksnc, r_snc0, r_snc1, r_snct, r_lt1, ptd, keyOf, freshK, lk, pt, lkO, addO, xv, kv, kc, ↓reduceIte, Nat.reduceEqDiff, Nat.reduceMul, reduceCtorEq, List.length_nil, Nat.reduceLT, true_and, and_true, Option.map_some, Option.map_none, Option.isSome_none, List.map_cons, List.map_nil, List.cons_append, List.nil_append, List.drop_zero, mens, men, noSh, isSc, impv, or_true, Bool.false_eq_true, Bool.true_eq_false, Bool.not_false, Int.toNat_natCast, List.all_cons, List.all_nil, isCell, Bool.and_self, Bool.not_eq_false', Int.natCast_nonneg, List.length_map, and_false]
        cases hk : inB sig[j].kind_ 0 2 with
        | false =>
          simp only [↓reduceIte, Bool.false_eq_true]
          rw [dc_false (hno fun h => inB_not.1 hk h.2.2)]
        | true =>
          have hk' := inB_iff.1 hk
          have hjl : j ≤ sig.length := by omega
          simp only [hjl, ↓reduceIte, true_and, Bool.not_true]
          have hc := sem_coFk (P := Go.Proofs.Tryd.prog) g_coFControl g_ixFControl cControl_len (f := fun d : TControl => decide (d.name = sig[j].name)) (fe := fid_impl_IsSignature_1) (cs := [cControl sig[j]]) (sig.take j) (by rw [List.length_take]; omega) (fun d _ lvl S => sem_IsSignature_1 sig[j] d lvl S)
          rw [← cut_take0] at hc
          refine ⟨fun h => h.elim, Nat.zero_le _, kca_intro hc ?_⟩
          simp only [r_cons, r_nil, r_kont, r_seq1, r_seq3, r_blk1, r_blk3, r_fn2, r_sk, r_rg, r_sq, r_rt, r_cd, r_cd2, r_op1, r_go1, r_mv, r_bi, r_add0, r_pk, r_pkf, r_fin, r_kfe1, r_kcx, r_exps0, r_exps1, r_kex, r_exp1, r_expv2, r_fgt, r_clean, r_okm4, r_okE0, r_okE1, r_okL0, r_round1, r_round3, r_lt1, ptd, keyOf, freshK, lk, pt, addO, xv, kv, kc, ↓reduceIte, Nat.reduceEqDiff, Nat.reduceMul, reduceCtorEq, List.length_nil, Nat.reduceLT, true_and, and_true, noSh, isSc, impv, memB, keepB, keepOB, or_true, Bool.false_eq_true, and_self]
          cases ha : (sig.take j).any (fun d : TControl => decide (d.name = sig[j].name)) with
          | true =>
            simp only [↓reduceIte]
            obtain ⟨d, hd, he⟩ := List.any_eq_true.1 ha
            obtain ⟨q, hq, rfl⟩ := List.getElem_of_mem hd
            rw [List.length_take] at hq
            rw [dc_false (fun hs : sigOK sig => (hs.1 j hja).2 q (by omega) (by simpa using he))]
          | false =>
            simp only [↓reduceIte, Bool.false_eq_true]
            refine ⟨by rw [fits_i64]; omega, cntJ_intro () hja rfl (fun i hi => ?_)⟩
            by_cases e : i = j
            · subst e
              refine fun h => ⟨⟨hn', hp', hk'⟩, fun q hq => ?_⟩
              have := (List.any_eq_false.1 ha) sig[q] (by
                rw [List.mem_take_iff_getElem]
                exact ⟨q, by omega, rfl⟩)
              simpa using this
            · exact hA i (by omega)
  · have : j = sig.length := by omega
    subst this
    have hall : ∀ i, sigAt sig i := fun i h => hA i h h
    rw [dc_true (p := sigOK sig) ⟨hall, by omega, by omega⟩]
end Go.Fd

/-
  WHAT A SIZE THAT IS LEFT SAYS OF BOUNDS (printed by lawgen.py). Own work.
-/
namespace Go.Fd
/-- A measure that only falls, and what it shows where something is left. -/
def Zm (s : Int → Int) (P : Prop) : Prop := ∀ l : Int, 0 ≤ l → l ≤ 1048576 → s l ≤ l ∧ (0 ≤ s l → P)
theorem Zm_id : Zm (fun l => l) True := fun _ _ _ => ⟨Int.le_refl _, fun _ => trivial⟩
theorem Zm_th {s g : Int → Int} {P Q : Prop} (hs : Zm s P) (hg : Zm g Q) : Zm (fun l => szTh (s l) g) (P ∧ Q) := fun l h0 h1 => by
  have a := hs l h0 h1
  by_cases h : s l < 0
  · simp only [szTh, if_pos h]
    exact ⟨by omega, fun h => by omega⟩
  · simp only [szTh, if_neg h]
    have b := hg (s l) (by omega) (by omega)
    exact ⟨by omega, fun h2 => ⟨a.2 (by omega), b.2 h2⟩⟩
theorem Zm_str (n : Nat) : Zm (fun l => l - n) (n ≤ 4294967296) := fun l h0 h1 => ⟨by simp only; omega, fun h => by simp only at h; omega⟩
theorem Zm_F {α : Type} {f : α → Int → Int} {P : α → Prop} (hf : ∀ x, Zm (f x) (P x)) : ∀ (a : List α), Zm (fun l => szF f a l) (∀ y ∈ a, P y)
  | [] => fun l _ _ => ⟨Int.le_refl l, fun _ y hy => by cases hy⟩
  | x :: r => fun l h0 h1 => by
    simp only [szF]
    have a := hf x l h0 h1
    split
    · exact ⟨by omega, fun h => by omega⟩
    · have b := Zm_F hf r (f x l) (by omega) (by omega)
      refine ⟨by simp only at b; omega, fun h y hy => ?_⟩
      cases hy with
      | head => exact a.2 (by omega)
      | tail _ hy => exact b.2 h y hy
theorem Zm_L {α : Type} {f : α → Int → Int} {P : α → Prop} (hf : ∀ x, Zm (f x) (P x)) (a : List α) : Zm (fun l => szL f a l) (a.length ≤ 4294967296 ∧ ∀ y ∈ a, P y) := fun l h0 h1 => by
  simp only [szL]
  split
  · exact ⟨by omega, fun h => by omega⟩
  · have b := Zm_F hf a (l - a.length) (by omega) (by omega)
    simp only at b
    exact ⟨by omega, fun h => ⟨by omega, b.2 h⟩⟩
theorem Zm_imp {s : Int → Int} {P Q : Prop} (h : Zm s P) (hq : P → Q) : Zm s Q := fun l h0 h1 => ⟨(h l h0 h1).1, fun h2 => hq ((h l h0 h1).2 h2)⟩
theorem zpControl (x : TControl) : Zm (fun l => szControl x l) (bdControl 4294967296 x) := by
  unfold szControl
  exact Zm_imp (Zm_th (Zm_str _) Zm_id) (fun h => by unfold bdControl; simp only [and_true] at h ⊢; exact h)
theorem mono_le {a : Nat} (h : a ≤ 4294967296) : a ≤ 9223372036854775807 := by omega
theorem monoSorting {x : TSorting} (h : bdSorting 4294967296 x) : bdSorting 9223372036854775807 x := by
  obtain ⟨b0, b1, b2, b3, b4, b5, b6⟩ := h
  exact ⟨(mono_le b0), (mono_le b1), (fun y0 hy0 => (mono_le (b2 y0 hy0))), (mono_le b3), (fun y0 hy0 => (mono_le (b4 y0 hy0))), (mono_le b5), (mono_le b6)⟩
theorem monoControl {x : TControl} (h : bdControl 4294967296 x) : bdControl 9223372036854775807 x := by
  exact (mono_le h)
end Go.Fd

/-
  SORTINGS, BOTH SIDES: VALID, FREE, FINER. Own work.
-/
namespace Go.Fd
set_option maxRecDepth 20000

abbrev eIS : List Int → List Tr := fun l => [Tr.sl (rI l)]

/-! ## numbers in order -/
/-- The numbers below n. -/
def upto (n : Nat) : List Int := (List.range n).map fun i : Nat => (i : Int)

theorem upto_len {n : Nat} : (upto n).length = n := by simp [upto]

theorem upto_succ {n : Nat} : upto (n + 1) = upto n ++ [(n : Int)] := by simp [upto, List.range_succ]

theorem rI_app (a b : List Int) : rI (a ++ b) = rI a ++ rI b := List.map_append

theorem sem_l5Count (n : Nat) (hn : n ≤ 4294967296) (lvl : Nat) (S : Sto) : Sem Go.Proofs.Tryd.prog fid_spec_l5Count lvl [iI n] S (.ow 1 (rI (upto n)) true) S := by
  refine sem_of_chk k_spec_l5Count trivial ?_
  simp only [c_spec_l5Count, r_cons, r_nil, r_kont, r_seq1, r_rg, r_sq, r_bl, r_wpF, r_op1, r_mv, r_bs, r_fills0, r_kfill, r_lt1, ptd, keyOf, freshK, lk, pt, lkO, ptO, xv, kv, kc, params, ↓reduceIte, Nat.reduceEqDiff, Nat.reduceMul, reduceCtorEq, List.length_cons, List.length_nil, Nat.reduceLeDiff, Nat.reduceLT, true_and, List.map_nil, Nat.zero_add, List.replicate_zero, and_self]
  refine wp_cnt (α := Unit) n (fun j _ => [(3, .hd (lvl, 160) [] 0 j none j), (4, iI j)]) (fun j _ => [(160, .ar 1 (rI (upto j)) true j 0)]) (fun _ _ => True) () (by simp only [r_clean, r_okm1, r_okm4, r_okE0, r_okE1, r_okL0, r_okL2, ↓reduceIte, Nat.reduceEqDiff, reduceCtorEq, memB, keepB, keepOB, Bool.false_eq_true, and_self]) (by (simp only [r_fgt, r_chg, r_pts0, r_pts1, r_ptOs0, r_ptOs1, pt, ptO, ↓reduceIte, Nat.reduceEqDiff, reduceCtorEq, Nat.reduceLT, memB, keepB, keepOB, Bool.false_eq_true, Int.cast_ofNat_Int]) <;> rfl) trivial ?_
  intro j _ hj _
  simp only [List.length_map, upto_len, r_cons, r_nil, r_kont, r_seq1, r_seq2, r_blk1, r_blk2, r_fn2, r_sk, r_rg, r_sq, r_bl, r_ex, r_rt, r_cd, r_cd2, r_op1, r_go1, r_mv, r_bs, r_fills0, r_fills1, r_fl2, r_kfill, r_bi, r_add0, r_lti, r_op3, r_rde, r_rd3, r_stamp0, r_pack, r_kill, r_fin, r_kfe1, r_kcx, r_exps0, r_exps1, r_kex, r_exp1, r_expv4, r_expc7, r_exh1, r_fgt, r_clean, r_okm1, r_okm4, r_okE0, r_okE1, r_okL0, r_okL2, r_round1, r_round2, r_apgo, r_apx2, r_aph, r_ap, r_kap, r_ap0h, r_chg, r_pts0, r_pts1, r_ptOs0, r_ptOs1, r_rep1, r_cut1, r_scr1, r_unr1, r_max, r_lt1, bigN, ptd, keyOf, freshK, lk, pt, lkO, ptO, xv, kv, kc, trv, ↓reduceIte, Nat.reduceEqDiff, Nat.reduceMul, reduceCtorEq, List.length_cons, List.length_nil, Nat.reduceLeDiff, Nat.reduceLT, true_and, and_true, decide_eq_true_eq, List.map_cons, List.map_nil, List.headD_cons, isSc, memB, keepB, keepOB, Bool.false_eq_true, scrE, scrL, scr, rmO, List.all_cons, List.all_nil, isCell, Bool.and_self, cellsOf, totr, totrs, tocs, getp, Nat.zero_add, List.set_cons_zero, Nat.le_refl, List.length_map, and_self]
  refine ite_of (fun hlt => ?_) (fun hge => ?_)
  · skip
    refine ⟨by omega, by rw [fits_i64]; omega, cntJ_intro () (by omega) ?_ trivial⟩
    rw [upto_succ, rI_app]
    rfl
  · have : j = n := by omega
    subst this
    rfl

theorem sem_controls (sig : List TControl) (hn : sig.length ≤ 4294967296) (lvl : Nat) (S : Sto) : Sem Go.Proofs.Tryd.prog fid_impl_controls lvl [.tr (.sl (sig.map cControl))] S (.ow 1 (rI (upto sig.length)) true) S := by
  refine sem_of_chk k_impl_controls trivial ?_
  simp only [c_impl_controls, List.length_map, r_cons, r_nil, r_kont, r_seq1, r_rg, r_sq, r_bl, r_wpF, r_op1, r_go1, r_mv, r_bs, r_fills0, r_kfill, r_ln, r_ln1, ptd, keyOf, freshK, lk, pt, lkO, ptO, xv, kv, kc, params, ↓reduceIte, Nat.reduceEqDiff, Nat.reduceMul, reduceCtorEq, List.length_cons, List.length_nil, Nat.reduceLeDiff, Nat.reduceLT, true_and, List.map_nil, Nat.zero_add, List.length_map, List.replicate_zero, and_self]
  refine wp_cnt (α := Unit) sig.length (fun j _ => [(3, .hd (lvl, 160) [] 0 j none j), (8, iI j)]) (fun j _ => [(160, .ar 1 (rI (upto j)) true j 0)]) (fun _ _ => True) () (by simp only [r_clean, r_okm1, r_okm4, r_okE0, r_okE1, r_okL0, r_okL2, ↓reduceIte, Nat.reduceEqDiff, reduceCtorEq, memB, keepB, keepOB, Bool.false_eq_true, and_self]) (by (simp only [r_fgt, r_chg, r_pts0, r_pts1, r_ptOs0, r_ptOs1, pt, ptO, ↓reduceIte, Nat.reduceEqDiff, reduceCtorEq, Nat.reduceLT, memB, keepB, keepOB, Bool.false_eq_true, Int.cast_ofNat_Int]) <;> rfl) trivial ?_
  intro j _ hj _
  simp only [List.length_map, upto_len, r_cons, r_nil, r_kont, r_seq1, r_seq2, r_blk1, r_blk2, r_fn2, r_sk, r_rg, r_sq, r_bl, r_ex, r_rt, r_cd, r_cd2, r_op1, r_go1, r_mv, r_bs, r_fills0, r_fills1, r_fl2, r_kfill, r_bi, r_add0, r_lti, r_op3, r_rde, r_rd3, r_stamp0, r_pack, r_kill, r_fin, r_kfe1, r_kcx, r_exps0, r_exps1, r_kex, r_exp1, r_expv4, r_expc7, r_exh1, r_fgt, r_clean, r_okm1, r_okm4, r_okE0, r_okE1, r_okL0, r_okL2, r_round1, r_round2, r_apgo, r_apx2, r_aph, r_ap, r_kap, r_ap0h, r_chg, r_pts0, r_pts1, r_ptOs0, r_ptOs1, r_rep1, r_cut1, r_scr1, r_unr1, r_max, r_lt1, bigN, ptd, keyOf, freshK, lk, pt, lkO, ptO, xv, kv, kc, trv, ↓reduceIte, Nat.reduceEqDiff, Nat.reduceMul, reduceCtorEq, List.length_cons, List.length_nil, Nat.reduceLeDiff, Nat.reduceLT, true_and, and_true, decide_eq_true_eq, List.map_cons, List.map_nil, List.headD_cons, isSc, memB, keepB, keepOB, Bool.false_eq_true, scrE, scrL, scr, rmO, List.all_cons, List.all_nil, isCell, Bool.and_self, cellsOf, totr, totrs, tocs, getp, Nat.zero_add, List.set_cons_zero, Nat.le_refl, List.length_map, and_self]
  refine ite_of (fun hlt => ?_) (fun hge => ?_)
  · skip
    refine ⟨by omega, by rw [fits_i64]; omega, cntJ_intro () (by omega) ?_ trivial⟩
    rw [upto_succ, rI_app]
    rfl
  · have : j = sig.length := by omega
    subst this
    rfl

/-! ## the free sorting -/
def freeNest (sig : List TControl) : List (List Int) := sig.map fun c => if c.kind_ = 2 then [] else upto sig.length

def freeSorts (sig : List TControl) : List (List Int) := sig.map fun c => List.replicate c.ports.toNat 0

open Classical in
noncomputable def r0_FreeSorting (sig : List TControl) : TSorting := if sigOK sig then ⟨upto sig.length, freeNest sig, freeSorts sig, [24], []⟩ else ⟨[], [], [], [], []⟩

noncomputable def r1_FreeSorting (sig : List TControl) : Bool := dc (sigOK sig)

theorem rep_rI (n : Nat) : List.replicate n [Tr.v (Value.int .i64 0)] = rI (List.replicate n 0) := by simp [rI]

theorem sem_spec_FreeSorting (sig : List TControl) (hn : sig.length ≤ 4294967296) (hb : ∀ y ∈ sig, bdControl 4294967296 y) (lvl : Nat) (S : Sto) : Sem Go.Proofs.Tryd.prog fid_spec_FreeSorting lvl [.tr (.sl (sig.map cControl))] S (.tu [oSorting (r0_FreeSorting sig), iB (r1_FreeSorting sig)]) S := by
  refine sem_of_chk k_spec_FreeSorting (by simp [oSorting, low, men, mens]) ?_
  simp only [c_spec_FreeSorting, r_cons, r_nil, r_kont, r_seq1, r_rg, r_sq, r_wpF, r_op1, r_mv, r_al, r_kcn, r_sn0, r_sn1, r_ca, r_ca1, zfill, zobs, ptd, keyOf, freshK, lk, pt, lkO, ptO, addO, xv, kv, kc, params, ↓reduceIte, Nat.reduceEqDiff, Nat.reduceMul, reduceCtorEq, List.length_cons, List.length_nil, Nat.reduceAdd, Nat.reduceLeDiff, Nat.reduceLT, true_and, List.map_cons, List.map_nil, List.cons_append, List.nil_append, mens, men, Nat.zero_add, Nat.add_zero, and_self]
  refine kca_intro (sem_l2Sig sig (by omega) (fun y hy => monoControl (hb y hy))) ?_
  simp only [List.length_map, r_cons, r_nil, r_kont, r_seq1, r_seq3, r_fn2, r_sk, r_rg, r_sq, r_rt, r_cd, r_cd2, r_op1, r_go1, r_mv, r_bd, r_nt, r_nt1, r_ln, r_ln1, r_pack, r_setOb, r_kill, r_kcn, r_sn0, r_sn1, r_ca, r_ca1, r_fin, r_kfe2, r_kcx, r_exps0, r_exps1, r_kex, r_exp1, r_exb1, r_exp2, r_exc, r_kagx, r_expv1, r_expv2, r_kxc, r_expcs0, r_expcs1, r_expc2, r_expc7, r_exh1, r_st, r_st1, r_stb, r_setAt0, r_setAt1, r_lows0, r_lows1, r_low2, r_low3, fpart, okp, zfill, zobs, ptd, keyOf, freshK, lk, pt, lkO, ptO, addO, xv, kv, kc, ↓reduceIte, Nat.reduceEqDiff, Nat.reduceMul, reduceCtorEq, List.length_cons, List.length_nil, Nat.reduceAdd, Nat.reduceLT, true_and, and_true, List.map_cons, List.map_nil, List.cons_append, List.nil_append, List.drop_zero, List.take_succ_cons, List.take_zero, List.headD_cons, List.tail_cons, mens, men, noSh, isSc, impv, or_true, scrE, scrL, scr, scrs, scrOb, rmO, List.all_cons, List.all_nil, isCell, Bool.and_self, cellsOf, Nat.zero_add, List.set_cons_zero, List.set_cons_succ, Bool.not_eq_true', Nat.le_refl, Prod.mk.injEq, List.length_map, and_false, and_self]
  unfold r0_FreeSorting r1_FreeSorting
  cases hs : dc (sigOK sig)
  · simp only [↓reduceIte]
    rw [if_neg (dc_not.1 hs)]
    rfl
  have hG := dc_iff.1 hs
  rw [if_pos hG]
  simp only [↓reduceIte, Bool.true_eq_false, Bool.not_true]
  refine kca_intro (sem_l5Count sig.length hn) ?_
  simp only [List.length_map, upto_len, r_cons, r_nil, r_kont, r_seq1, r_rg, r_sq, r_bl, r_op1, r_mv, r_al, r_bd, r_bs, r_fills0, r_fills1, r_fl2, r_kfill, r_pack, r_setOb, r_st, r_st1, r_stb, r_setAt0, r_setAt1, r_lows0, r_lows1, r_low2, r_low3, r_rep1, r_lt1, fpart, okp, zfill, zobs, ptd, keyOf, freshK, lk, pt, lkO, ptO, addO, xv, kv, kc, trv, ↓reduceIte, Nat.reduceEqDiff, Nat.reduceMul, reduceCtorEq, List.length_cons, List.length_nil, Option.getD_some, Nat.reduceAdd, Nat.reduceLeDiff, Nat.reduceLT, true_and, List.map_cons, List.map_nil, noSh, impv, impc, or_true, List.all_cons, List.all_nil, isCell, Bool.and_self, cellsOf, totr, totrs, tocs, Nat.zero_add, Nat.add_zero, List.set_cons_zero, List.set_cons_succ, Nat.le_refl, List.length_map, and_self]
  have hnl : (freeNest sig).length = sig.length := by simp [freeNest]
  have hsl : (freeSorts sig).length = sig.length := by simp [freeSorts]
  refine wp_cnt (α := Unit) sig.length (fun j _ => [(5, iI j)]) (fun j _ => [(128, .bx [.hd (lvl, 384) [] 0 sig.length none sig.length, .hd (lvl, 448) [] 0 j none j, .hd (lvl, 449) [] 0 j none j, .hd (lvl, 416) [] 0 1 none 1, .cs []]), (448, .ar 1 (((freeNest sig).take j).map eIS) true j 0), (449, .ar 1 (((freeSorts sig).take j).map eIS) true j 0)]) (fun _ _ => True) () (by simp only [r_clean, r_okm1, r_okm2, r_okm4, r_okm5, r_okms0, r_okms1, r_okE0, r_okE1, r_okL0, r_okL1, r_okL2, ↓reduceIte, Nat.reduceEqDiff, reduceCtorEq, memB, keepB, keepOB, Bool.false_eq_true, and_self]) (by (simp only [r_fgt, r_chg, r_pts0, r_pts1, r_ptOs0, r_ptOs1, pt, ptO, ↓reduceIte, Nat.reduceEqDiff, reduceCtorEq, Nat.reduceLT, List.map_nil, List.take_zero, memB, keepB, keepOB, Bool.false_eq_true, Int.cast_ofNat_Int]) <;> rfl) trivial ?_
  intro j _ hj _
  simp only [List.length_map, r_cons, r_nil, r_kont, r_seq1, r_seq2, r_blk2, r_fn2, r_sk, r_rg, r_sq, r_bl, r_ex, r_rt, r_cd, r_cd2, r_op1, r_go1, r_mv, r_bi, r_lti, r_ln, r_ln1, r_op3, r_fa, r_fa2, r_ixn, r_ia, r_ia1, r_pack, r_setOb, r_kill, r_lab, r_ld, r_ld2, r_labm, r_ld5, r_fin, r_kfe2, r_kcx, r_exps0, r_exps1, r_kex, r_exp1, r_exb1, r_exp2, r_exc, r_kagx, r_expv1, r_expv2, r_kxc, r_expcs0, r_expcs1, r_expc2, r_expc7, r_exh1, r_fgt, r_round2, r_st, r_st1, r_stb, r_setAt0, r_setAt1, r_lows0, r_lows1, r_low2, r_low3, r_chg, r_pts0, r_pts1, r_ptOs0, r_ptOs1, r_lt1, ptd, lk, pt, lkO, ptO, xv, kv, kc, ↓reduceIte, Nat.reduceEqDiff, reduceCtorEq, List.length_cons, List.length_nil, Nat.reduceAdd, Nat.reduceLT, true_and, and_true, decide_eq_true_eq, List.getElem?_cons_zero, List.getElem?_cons_succ, List.drop_zero, List.take_succ_cons, List.take_zero, List.headD_cons, List.tail_cons, memB, keepB, keepOB, Bool.false_eq_true, scrE, scrL, scr, scrs, scrOb, rmO, Int.toNat_natCast, List.all_cons, List.all_nil, isCell, Bool.and_self, cellsOf, Nat.zero_add, List.set_cons_zero, List.set_cons_succ, Int.natCast_nonneg, Nat.le_refl, Prod.mk.injEq, List.length_map, and_false, and_self]
  refine ite_of (fun hlt => ?_) (fun hge => ?_)
  · have hja : j < sig.length := by omega
    have gs := getA (c := cControl) hja
    have hc := (hG.1 j hja).1
    have hp1 := hc.2.1.1
    have hp2 : sig[j].ports ≤ 4294967296 := by have := hc.2.1.2; omega
    have hlN : (((freeNest sig).take j).map eIS).length = j := by rw [List.length_map, List.length_take]; omega
    have hlS : (((freeSorts sig).take j).map eIS).length = j := by rw [List.length_map, List.length_take]; omega
    simp only [gs, cControl, bigN, hp1, hp2, hlN, hlS, r_cons, r_nil, r_kont, r_seq1, r_blk1, r_rg, r_sq, r_cd, r_cd2, r_op1, r_go1, r_mv, r_bv, r_bv1, r_bs, r_fills0, r_kfill, r_ms, r_ms1, r_bi, r_add0, r_eqi, r_ln, r_ln1, r_op3, r_fa, r_fa1, r_fa2, r_ixn, r_ia, r_iae, r_ia1, r_pack, r_setOb, r_kill, r_ltr, r_lab, r_ld, r_ld1, r_ld2, r_kcn, r_sn0, r_sn1, r_ca, r_ca1, r_fgt, r_clean, r_okm1, r_okm2, r_okm4, r_okm5, r_okms0, r_okms1, r_okE0, r_okE1, r_okL0, r_okL1, r_okL2, r_round1, r_st, r_st1, r_stb, r_setAt0, r_setAt1, r_lows0, r_lows1, r_low3, r_bw, r_kbw, r_bw1, r_bw2, r_kmv, r_kmc, r_mvcs0, r_mvcs1, r_mvc4, r_mv5, r_apgo, r_apx2, r_aph, r_ap, r_ap2h, r_ap5, r_kaps, r_aps, r_ap2s, r_unr1, r_max, r_lt1, bigN, ptd, keyOf, freshK, lk, pt, lkO, ptO, xv, kv, kc, trv, ↓reduceIte, Nat.reduceEqDiff, Nat.reduceMul, reduceCtorEq, List.length_cons, List.length_nil, Nat.reduceAdd, Nat.reduceLeDiff, Nat.reduceLT, true_and, decide_eq_true_eq, List.map_cons, List.map_nil, List.cons_append, List.nil_append, List.getElem?_cons_zero, List.getElem?_cons_succ, List.drop_succ_cons, List.drop_zero, mens, men, memB, keepB, keepOB, Bool.false_eq_true, scrE, scrL, scr, scrs, scrOb, rmO, Int.toNat_natCast, isCell, Bool.and_self, cellsOf, Nat.zero_add, List.set_cons_zero, List.set_cons_succ, Int.natCast_nonneg, Prod.mk.injEq, List.length_map, List.length_replicate, List.replicate_zero, and_false, and_self, Int.cast_ofNat_Int]
    have hstepS : ((freeSorts sig).take j).map eIS ++ [[Tr.sl (List.replicate sig[j].ports.toNat [Tr.v (Value.int .i64 0)])]] = ((freeSorts sig).take (j + 1)).map eIS := by
      rw [List.take_succ_eq_append_getElem (by omega), List.map_append, rep_rI]
      simp [freeSorts]
    refine ⟨by omega, ite_of (fun hk => ?_) (fun hk => ?_)⟩
    · have hstepN : ((freeNest sig).take j).map eIS ++ [[Tr.sl []]] = ((freeNest sig).take (j + 1)).map eIS := by
        rw [List.take_succ_eq_append_getElem (by omega), List.map_append]
        simp [freeNest, hk]
      simp only [hstepS, hstepN]
      exact ⟨by omega, by rw [fits_i64]; omega, cntJ_intro () hja rfl trivial⟩
    · refine kca_intro (sem_l5Count sig.length hn) ?_
      have hstepN : ((freeNest sig).take j).map eIS ++ [[Tr.sl (rI (upto sig.length))]] = ((freeNest sig).take (j + 1)).map eIS := by
        rw [List.take_succ_eq_append_getElem (by omega), List.map_append]
        simp [freeNest, hk]
      simp only [hstepS, hstepN, hlN, upto_len, r_cons, r_nil, r_kont, r_seq1, r_blk1, r_rg, r_op1, r_go1, r_mv, r_bv, r_bv1, r_bi, r_add0, r_fa, r_fa2, r_pack, r_setOb, r_kill, r_fgt, r_clean, r_okm1, r_okm2, r_okm4, r_okm5, r_okms0, r_okms1, r_okE0, r_okE1, r_okL0, r_okL1, r_okL2, r_round1, r_st, r_st1, r_stb, r_setAt0, r_setAt1, r_lows0, r_lows1, r_low3, r_kmv, r_kmc, r_mvcs0, r_mvcs1, r_mvc4, r_mv5, r_apgo, r_apx2, r_aph, r_ap, r_kaps, r_aps, r_ap2s, r_unr1, r_max, r_lt1, bigN, ptd, keyOf, freshK, lk, pt, lkO, ptO, addO, xv, kv, kc, ↓reduceIte, Nat.reduceEqDiff, Nat.reduceMul, reduceCtorEq, List.length_cons, List.length_nil, Nat.reduceAdd, Nat.reduceLeDiff, Nat.reduceLT, true_and, noSh, impv, impc, memB, keepB, keepOB, or_true, Bool.false_eq_true, scrE, scrL, scr, scrs, scrOb, rmO, isCell, Bool.and_self, cellsOf, Nat.zero_add, Nat.add_zero, List.set_cons_zero, List.set_cons_succ, Prod.mk.injEq, List.length_map, and_false, and_self]
      exact ⟨by omega, by rw [fits_i64]; omega, cntJ_intro () hja rfl trivial⟩
  · have : j = sig.length := by omega
    subst this
    refine ⟨upto_len.symm, by rw [List.length_take]; omega, by rw [List.length_take]; omega, ?_⟩
    rw [List.take_of_length_le (by omega), List.take_of_length_le (by omega)]
    rfl

theorem sem_impl_FreeSorting (sig : List TControl) (hn : sig.length ≤ 4294967296) (hb : ∀ y ∈ sig, bdControl 4294967296 y) (lvl : Nat) (S : Sto) : Sem Go.Proofs.Tryd.prog fid_impl_FreeSorting lvl [.tr (.sl (sig.map cControl))] S (.tu [oSorting (r0_FreeSorting sig), iB (r1_FreeSorting sig)]) S := by
  refine sem_of_chk k_impl_FreeSorting (by simp [oSorting, low, men, mens]) ?_
  simp only [c_impl_FreeSorting, r_cons, r_nil, r_kont, r_seq1, r_rg, r_sq, r_wpF, r_op1, r_mv, r_al, r_kcn, r_sn0, r_sn1, r_ca, r_ca1, zfill, zobs, ptd, keyOf, freshK, lk, pt, lkO, ptO, addO, xv, kv, kc, params, ↓reduceIte, Nat.reduceEqDiff, Nat.reduceMul, reduceCtorEq, List.length_cons, List.length_nil, Nat.reduceAdd, Nat.reduceLeDiff, Nat.reduceLT, true_and, List.map_cons, List.map_nil, List.cons_append, List.nil_append, mens, men, Nat.zero_add, Nat.add_zero, and_self]
  refine kca_intro (sem_impl_IsSignature sig (by omega) (fun y hy => monoControl (hb y hy))) ?_
  simp only [r_cons, r_nil, r_kont, r_seq1, r_seq3, r_fn2, r_sk, r_rg, r_sq, r_rt, r_cd, r_cd2, r_op1, r_go1, r_mv, r_bd, r_nt, r_nt1, r_pack, r_setOb, r_kill, r_kcn, r_sn0, r_sn1, r_ca, r_ca1, r_fin, r_kfe2, r_kcx, r_exps0, r_exps1, r_kex, r_exp1, r_exb1, r_exp2, r_exc, r_kagx, r_expv1, r_expv2, r_kxc, r_expcs0, r_expcs1, r_expc2, r_expc7, r_exh1, r_st, r_st1, r_stb, r_setAt0, r_setAt1, r_lows0, r_lows1, r_low2, r_low3, fpart, okp, zfill, zobs, ptd, keyOf, freshK, lk, pt, lkO, ptO, addO, xv, kv, kc, ↓reduceIte, Nat.reduceEqDiff, Nat.reduceMul, reduceCtorEq, List.length_cons, List.length_nil, Nat.reduceAdd, Nat.reduceLT, true_and, and_true, List.map_cons, List.map_nil, List.cons_append, List.nil_append, List.drop_zero, List.take_succ_cons, List.take_zero, List.headD_cons, List.tail_cons, mens, men, noSh, isSc, impv, or_true, scrE, scrL, scr, scrs, scrOb, rmO, List.all_cons, List.all_nil, isCell, Bool.and_self, cellsOf, Nat.zero_add, List.set_cons_zero, List.set_cons_succ, Bool.not_eq_true', Nat.le_refl, Prod.mk.injEq, and_false, and_self]
  unfold r0_FreeSorting r1_FreeSorting
  cases hs : dc (sigOK sig)
  · simp only [↓reduceIte]
    rw [if_neg (dc_not.1 hs)]
    rfl
  have hG := dc_iff.1 hs
  rw [if_pos hG]
  simp only [↓reduceIte, Bool.true_eq_false, Bool.not_true]
  refine kca_intro (sem_controls sig hn) ?_
  simp only [List.length_map, upto_len, r_cons, r_nil, r_kont, r_seq1, r_rg, r_sq, r_bl, r_op1, r_go1, r_mv, r_al, r_bd, r_bs, r_fills0, r_fills1, r_fl2, r_kfill, r_ln, r_ln1, r_pack, r_setOb, r_st, r_st1, r_stb, r_setAt0, r_setAt1, r_lows0, r_lows1, r_low2, r_low3, r_rep1, r_lt1, fpart, okp, zfill, zobs, ptd, keyOf, freshK, lk, pt, lkO, ptO, addO, xv, kv, kc, trv, ↓reduceIte, Nat.reduceEqDiff, Nat.reduceMul, reduceCtorEq, List.length_cons, List.length_nil, Option.getD_some, Nat.reduceAdd, Nat.reduceLeDiff, Nat.reduceLT, true_and, List.map_cons, List.map_nil, noSh, impv, impc, or_true, List.all_cons, List.all_nil, isCell, Bool.and_self, cellsOf, totr, totrs, tocs, Nat.zero_add, Nat.add_zero, List.set_cons_zero, List.set_cons_succ, Nat.le_refl, List.length_map, and_self]
  have hnl : (freeNest sig).length = sig.length := by simp [freeNest]
  have hsl : (freeSorts sig).length = sig.length := by simp [freeSorts]
  refine wp_cnt (α := Unit) sig.length (fun j _ => [(18, iI j)]) (fun j _ => [(128, .bx [.hd (lvl, 416) [] 0 sig.length none sig.length, .hd (lvl, 480) [] 0 j none j, .hd (lvl, 481) [] 0 j none j, .hd (lvl, 448) [] 0 1 none 1, .cs []]), (480, .ar 1 (((freeNest sig).take j).map eIS) true j 0), (481, .ar 1 (((freeSorts sig).take j).map eIS) true j 0)]) (fun _ _ => True) () (by simp only [r_clean, r_okm1, r_okm2, r_okm4, r_okm5, r_okms0, r_okms1, r_okE0, r_okE1, r_okL0, r_okL1, r_okL2, ↓reduceIte, Nat.reduceEqDiff, reduceCtorEq, memB, keepB, keepOB, Bool.false_eq_true, and_self]) (by (simp only [r_fgt, r_chg, r_pts0, r_pts1, r_ptOs0, r_ptOs1, pt, ptO, ↓reduceIte, Nat.reduceEqDiff, reduceCtorEq, Nat.reduceLT, List.map_nil, List.take_zero, memB, keepB, keepOB, Bool.false_eq_true, Int.cast_ofNat_Int]) <;> rfl) trivial ?_
  intro j _ hj _
  simp only [List.length_map, r_cons, r_nil, r_kont, r_seq1, r_seq2, r_blk2, r_fn2, r_sk, r_rg, r_sq, r_bl, r_ex, r_rt, r_cd, r_cd2, r_op1, r_go1, r_mv, r_bi, r_lti, r_ixn, r_ia, r_ia1, r_pack, r_setOb, r_kill, r_ld, r_labm, r_ld5, r_fin, r_kfe2, r_kcx, r_exps0, r_exps1, r_kex, r_exp1, r_exb1, r_exp2, r_exc, r_kagx, r_expv1, r_expv2, r_kxc, r_expcs0, r_expcs1, r_expc2, r_expc7, r_exh1, r_fgt, r_round2, r_st, r_st1, r_stb, r_setAt0, r_setAt1, r_lows0, r_lows1, r_low2, r_low3, r_chg, r_pts0, r_pts1, r_ptOs0, r_ptOs1, r_lt1, ptd, lk, pt, lkO, ptO, xv, kv, kc, ↓reduceIte, Nat.reduceEqDiff, reduceCtorEq, List.length_cons, List.length_nil, Nat.reduceAdd, Nat.reduceLT, true_and, and_true, decide_eq_true_eq, List.drop_zero, List.take_succ_cons, List.take_zero, List.headD_cons, List.tail_cons, memB, keepB, keepOB, Bool.false_eq_true, scrE, scrL, scr, scrs, scrOb, rmO, Int.toNat_natCast, List.all_cons, List.all_nil, isCell, Bool.and_self, cellsOf, Nat.zero_add, List.set_cons_zero, List.set_cons_succ, Int.natCast_nonneg, Nat.le_refl, Prod.mk.injEq, List.length_map, and_false, and_self]
  refine ite_of (fun hlt => ?_) (fun hge => ?_)
  · have hja : j < sig.length := by omega
    have gs := getA (c := cControl) hja
    have hc := (hG.1 j hja).1
    have hp1 := hc.2.1.1
    have hp2 : sig[j].ports ≤ 4294967296 := by have := hc.2.1.2; omega
    have hlN : (((freeNest sig).take j).map eIS).length = j := by rw [List.length_map, List.length_take]; omega
    have hlS : (((freeSorts sig).take j).map eIS).length = j := by rw [List.length_map, List.length_take]; omega
    have hstepS : ((freeSorts sig).take j).map eIS ++ [[Tr.sl (List.replicate sig[j].ports.toNat [Tr.v (Value.int .i64 0)])]] = ((freeSorts sig).take (j + 1)).map eIS := by
      rw [List.take_succ_eq_append_getElem (by omega), List.map_append, rep_rI]
      simp [freeSorts]
    simp only [gs, cControl, bigN, hp1, hp2, hlN, hlS, r_cons, r_nil, r_kont, r_seq1, r_blk1, r_sk, r_rg, r_sq, r_cd, r_cd2, r_op1, r_go1, r_mv, r_bv, r_bv1, r_al, r_bs, r_fills0, r_kfill, r_ms, r_ms1, r_bi, r_add0, r_nei, r_op3, r_fa, r_fa2, r_iae, r_pack, r_setOb, r_kill, r_lab, r_ld, r_ld2, r_ld4, r_kcn, r_sn0, r_sn1, r_ca, r_ca1, r_fgt, r_clean, r_okm1, r_okm2, r_okm4, r_okm5, r_okms0, r_okms1, r_okE0, r_okE1, r_okL0, r_okL1, r_okL2, r_round1, r_st, r_st1, r_stb, r_setAt0, r_setAt1, r_lows0, r_lows1, r_low1, r_low3, r_bw, r_kbw, r_bw1, r_bw2, r_kmv, r_kmc, r_mvcs0, r_mvcs1, r_mvc4, r_mv5, r_apgo, r_apx2, r_aph, r_ap, r_ap2h, r_ap5, r_kaps, r_aps, r_ap2s, r_unr1, r_max, bigN, zfill, zobs, ptd, keyOf, freshK, lk, pt, lkO, ptO, addO, xv, kv, kc, trv, ↓reduceIte, Nat.reduceEqDiff, Nat.reduceMul, reduceCtorEq, List.length_cons, List.length_nil, Nat.reduceAdd, Nat.reduceLeDiff, Nat.reduceLT, true_and, decide_eq_true_eq, List.map_cons, List.map_nil, List.cons_append, List.nil_append, List.getElem?_cons_zero, List.getElem?_cons_succ, List.take_succ_cons, List.take_zero, mens, men, memB, keepB, keepOB, Bool.false_eq_true, scrE, scrL, scr, scrs, scrOb, rmO, List.all_cons, List.all_nil, isCell, Bool.and_self, cellsOf, Nat.zero_add, Nat.add_zero, List.set_cons_zero, List.set_cons_succ, Nat.le_refl, Prod.mk.injEq, ne_eq, List.length_replicate, List.replicate_zero, and_false, and_self, Int.cast_ofNat_Int]
    refine ite_of (fun hk => ?_) (fun hk => ?_)
    · refine kca_intro (sem_controls sig hn) ?_
      have hstepN : ((freeNest sig).take j).map eIS ++ [[Tr.sl (rI (upto sig.length))]] = ((freeNest sig).take (j + 1)).map eIS := by
        rw [List.take_succ_eq_append_getElem (by omega), List.map_append]
        simp [freeNest, hk]
      simp only [hp1, hp2, hstepS, hstepN, hlN, hlS, upto_len, r_cons, r_nil, r_kont, r_seq1, r_blk1, r_rg, r_sq, r_op1, r_go1, r_mv, r_bv, r_bv1, r_ms, r_ms1, r_bi, r_add0, r_op3, r_fa, r_fa2, r_pack, r_setOb, r_kill, r_lab, r_ld, r_ld2, r_fgt, r_clean, r_okm1, r_okm2, r_okm4, r_okm5, r_okms0, r_okms1, r_okE0, r_okE1, r_okL0, r_okL1, r_okL2, r_round1, r_st, r_st1, r_stb, r_setAt0, r_setAt1, r_lows0, r_lows1, r_low3, r_bw, r_kbw, r_bw1, r_bw2, r_kmv, r_kmc, r_mvcs0, r_mvcs1, r_mvc4, r_mv5, r_apgo, r_apx2, r_aph, r_ap, r_ap2h, r_ap5, r_kaps, r_aps, r_ap2s, r_unr1, r_max, bigN, ptd, keyOf, freshK, lk, pt, lkO, ptO, addO, xv, kv, kc, trv, ↓reduceIte, Nat.reduceEqDiff, Nat.reduceMul, reduceCtorEq, List.length_cons, List.length_nil, Nat.reduceAdd, Nat.reduceLeDiff, Nat.reduceLT, true_and, List.map_cons, List.map_nil, List.getElem?_cons_zero, List.getElem?_cons_succ, noSh, impv, impc, memB, keepB, keepOB, or_true, Bool.false_eq_true, scrE, scrL, scr, scrs, scrOb, rmO, isCell, Bool.and_self, cellsOf, Nat.zero_add, Nat.add_zero, List.set_cons_zero, List.set_cons_succ, Prod.mk.injEq, List.length_map, List.length_replicate, and_false, and_self, Int.cast_ofNat_Int]
      exact ⟨by omega, by omega, by rw [fits_i64]; omega, cntJ_intro () hja rfl trivial⟩
    · have hk : sig[j].kind_ = 2 := by simpa using hk
      have hstepN : ((freeNest sig).take j).map eIS ++ [[Tr.sl []]] = ((freeNest sig).take (j + 1)).map eIS := by
        rw [List.take_succ_eq_append_getElem (by omega), List.map_append]
        simp [freeNest, hk]
      simp only [hstepS, hstepN]
      exact ⟨by omega, by omega, by rw [fits_i64]; omega, cntJ_intro () hja rfl trivial⟩
  · have : j = sig.length := by omega
    subst this
    refine ⟨upto_len.symm, by rw [List.length_take]; omega, by rw [List.length_take]; omega, ?_⟩
    rw [List.take_of_length_le (by omega), List.take_of_length_le (by omega)]
    rfl
end Go.Fd

/-
  The annotated codes of the functions, printed by a program of mine (gen.py), and the check that they belong to the program.
-/
namespace Go.Fd
def c_laws_FnExactFreeSorting : F2 :=
  { nt := 96, res := [.t 2 [0]], body :=
   (.sq (.rg none [⟨some 2, none, .mv (.k (.bool false)) none⟩])
   (.sq (.rg none [⟨some 3, none, .mv (.k (.int .i64 1048576)) none⟩])
   (.sq (.rg none [⟨some 14, none, .mv (.t 0) none⟩,
      ⟨some 15, none, .mv (.t 3) none⟩,
      ⟨some 16, none, .ca .pure false (.f fid_laws_szControlS) [.t 14, .t 15]⟩,
      ⟨some 3, none, .mv (.t 16) none⟩])
   (.sq (.sq (.rg none [⟨some 17, none, .mv (.t 3) none⟩,
       ⟨some 18, none, .bi .lss 0 (.t 17) (.k (.int .i64 0))⟩])
    (.cd (.t 18) (.sq (.rg none [⟨some 2, none, .mv (.k (.bool true)) none⟩])
     (.rt))
    (.sk)))
   (.sq (.rg none [⟨some 20, none, .mv (.t 0) none⟩,
      ⟨some 21, none, .ca .pure false (.f fid_laws_toControlS) [.t 20]⟩,
      ⟨some 22, none, .ca .pure false (.f fid_spec_FreeSorting) [.t 21]⟩,
      ⟨some 19, none, .mv (.t 22) none⟩,
      ⟨some 23, none, .ex 0 (.t 19)⟩,
      ⟨some 24, none, .ex 1 (.t 19)⟩,
      ⟨some 4, none, .al [.slice none 0 0, .slice none 0 0, .slice none 0 0, .slice none 0 0, .slice none 0 0] []⟩,
      ⟨none, none, .st 5 (.t 4) (.t 23)⟩,
      ⟨some 5, none, .mv (.t 24) none⟩])
   (.sq (.rg none [⟨some 25, none, .mv (.t 0) none⟩,
      ⟨some 26, none, .ca .pure true (.f fid_laws_toControlS) [.t 25]⟩,
      ⟨some 6, none, .mv (.t 26) none⟩])
   (.sq (.rg none [⟨some 28, none, .mv (.t 6) none⟩,
      ⟨some 29, none, .ca .pure true (.f fid_impl_FreeSorting) [.t 28]⟩,
      ⟨some 27, none, .mv (.t 29) none⟩,
      ⟨some 30, none, .ex 0 (.t 27)⟩,
      ⟨some 31, none, .ex 1 (.t 27)⟩,
      ⟨some 7, none, .al [.slice none 0 0, .slice none 0 0, .slice none 0 0, .slice none 0 0, .slice none 0 0] []⟩,
      ⟨none, none, .st 5 (.t 7) (.t 30)⟩,
      ⟨some 8, none, .mv (.t 31) none⟩])
   (.sq (.sq (.rg none [⟨some 32, none, .ld (some 5) (.t 7)⟩,
       ⟨some 33, none, .ld (some 5) (.t 4)⟩,
       ⟨some 34, none, .ca .pure false (.f fid_laws_eqSorting) [.t 32, .t 33]⟩,
       ⟨some 35, none, .nt (.t 34)⟩,
       ⟨some 36, none, .mv (.t 35) none⟩,
       ⟨some 37, (some (36, false)), .mv (.t 8) none⟩,
       ⟨some 38, (some (36, false)), .mv (.t 5) none⟩,
       ⟨some 39, (some (36, false)), .bi .neq 2 (.t 37) (.t 38)⟩,
       ⟨some 40, none, .pk (.t 36) (.k (.bool true)) (.t 39)⟩])
    (.cd (.t 40) (.sq (.rg none [⟨some 2, none, .mv (.k (.bool false)) none⟩])
     (.rt))
    (.sk)))
   (.sq (.sq (.rg none [⟨some 41, none, .mv (.t 6) none⟩,
       ⟨some 42, none, .mv (.t 0) none⟩,
       ⟨some 43, none, .ca .pure false (.f fid_laws_toControlS) [.t 42]⟩,
       ⟨some 44, none, .ca .pure false (.f fid_laws_eqControlS) [.t 41, .t 43]⟩,
       ⟨some 45, none, .nt (.t 44)⟩])
    (.cd (.t 45) (.sq (.rg none [⟨some 2, none, .mv (.k (.bool false)) none⟩])
     (.rt))
    (.sk)))
   (.sq (.rg none [⟨some 9, none, .mv (.k (.int .i64 1)) none⟩])
   (.sq (.rg none [⟨some 46, none, .mv (.t 6) none⟩,
      ⟨some 47, none, .mv (.t 9) none⟩,
      ⟨some 48, none, .ca .any true (.f fid_laws_markControlS) [.t 46, .t 47]⟩,
      ⟨some 9, none, .mv (.t 48) none⟩])
   (.sq (.sq (.rg none [⟨some 49, none, .mv (.t 9) none⟩,
       ⟨some 50, none, .bi .lss 0 (.t 49) (.k (.int .i64 0))⟩,
       ⟨some 51, none, .mv (.t 50) none⟩,
       ⟨some 52, (some (51, false)), .ld (some 5) (.t 7)⟩,
       ⟨some 53, (some (51, false)), .ld (some 5) (.t 4)⟩,
       ⟨some 54, (some (51, false)), .ca .pure false (.f fid_laws_eqSorting) [.t 52, .t 53]⟩,
       ⟨some 55, (some (51, false)), .nt (.t 54)⟩,
       ⟨some 56, none, .pk (.t 51) (.k (.bool true)) (.t 55)⟩,
       ⟨some 57, none, .mv (.t 56) none⟩,
       ⟨some 58, (some (57, false)), .mv (.t 8) none⟩,
       ⟨some 59, (some (57, false)), .mv (.t 5) none⟩,
       ⟨some 60, (some (57, false)), .bi .neq 2 (.t 58) (.t 59)⟩,
       ⟨some 61, none, .pk (.t 57) (.k (.bool true)) (.t 60)⟩])
    (.cd (.t 61) (.sq (.rg none [⟨some 2, none, .mv (.k (.bool false)) none⟩])
     (.rt))
    (.sk)))
   (.sq (.rg none [⟨some 10, none, .mv (.k (.int .i64 1)) none⟩])
   (.sq (.rg none [⟨some 62, none, .ld (some 5) (.t 7)⟩,
      ⟨some 63, none, .mv (.t 10) none⟩,
      ⟨some 64, none, .ca .any true (.f fid_laws_markSorting) [.t 62, .t 63]⟩,
      ⟨some 10, none, .mv (.t 64) none⟩])
   (.sq (.rg none [⟨some 11, none, .mv (.k (.int .i64 1)) none⟩])
   (.sq (.rg none [⟨some 65, none, .ld (some 5) (.t 7)⟩,
      ⟨some 66, none, .mv (.t 11) none⟩,
      ⟨some 67, none, .ca .pure false (.f fid_laws_heldSorting) [.t 65, .t 66]⟩,
      ⟨some 11, none, .mv (.t 67) none⟩])
   (.sq (.sq (.rg none [⟨some 68, none, .mv (.t 11) none⟩,
       ⟨some 69, none, .bi .lss 0 (.t 68) (.k (.int .i64 0))⟩])
    (.cd (.t 69) (.sq (.rg none [⟨some 2, none, .mv (.k (.bool false)) none⟩])
     (.rt))
    (.sk)))
   (.sq (.sq (.rg none [⟨some 70, none, .mv (.t 11) none⟩,
       ⟨some 71, none, .mv (.t 10) none⟩,
       ⟨some 72, none, .bi .neq 0 (.t 70) (.t 71)⟩])
    (.cd (.t 72) (.sq (.rg none [⟨some 2, none, .mv (.k (.bool false)) none⟩])
     (.rt))
    (.sk)))
   (.sq (.rg none [⟨some 74, none, .mv (.t 0) none⟩,
      ⟨some 75, none, .ca .pure false (.f fid_laws_toControlS) [.t 74]⟩,
      ⟨some 76, none, .ca .pure false (.f fid_impl_FreeSorting) [.t 75]⟩,
      ⟨some 73, none, .mv (.t 76) none⟩,
      ⟨some 77, none, .ex 0 (.t 73)⟩,
      ⟨some 78, none, .ex 1 (.t 73)⟩,
      ⟨some 12, none, .al [.slice none 0 0, .slice none 0 0, .slice none 0 0, .slice none 0 0, .slice none 0 0] []⟩,
      ⟨none, none, .st 5 (.t 12) (.t 77)⟩,
      ⟨some 13, none, .mv (.t 78) none⟩])
   (.sq (.sq (.rg none [⟨some 79, none, .ld (some 5) (.t 12)⟩,
       ⟨some 80, none, .ld (some 5) (.t 4)⟩,
       ⟨some 81, none, .ca .pure false (.f fid_laws_eqSorting) [.t 79, .t 80]⟩,
       ⟨some 82, none, .nt (.t 81)⟩,
       ⟨some 83, none, .mv (.t 82) none⟩,
       ⟨some 84, (some (83, false)), .mv (.t 13) none⟩,
       ⟨some 85, (some (83, false)), .mv (.t 5) none⟩,
       ⟨some 86, (some (83, false)), .bi .neq 2 (.t 84) (.t 85)⟩,
       ⟨some 87, none, .pk (.t 83) (.k (.bool true)) (.t 86)⟩])
    (.cd (.t 87) (.sq (.rg none [⟨some 2, none, .mv (.k (.bool false)) none⟩])
     (.rt))
    (.sk)))
   (.sq (.rg none [⟨some 11, none, .mv (.k (.int .i64 1)) none⟩])
   (.sq (.rg none [⟨some 88, none, .ld (some 5) (.t 7)⟩,
      ⟨some 89, none, .mv (.t 11) none⟩,
      ⟨some 90, none, .ca .pure false (.f fid_laws_heldSorting) [.t 88, .t 89]⟩,
      ⟨some 11, none, .mv (.t 90) none⟩])
   (.sq (.sq (.rg none [⟨some 91, none, .mv (.t 11) none⟩,
       ⟨some 92, none, .bi .lss 0 (.t 91) (.k (.int .i64 0))⟩])
    (.cd (.t 92) (.sq (.rg none [⟨some 2, none, .mv (.k (.bool false)) none⟩])
     (.rt))
    (.sk)))
   (.sq (.sq (.rg none [⟨some 93, none, .mv (.t 11) none⟩,
       ⟨some 94, none, .mv (.t 10) none⟩,
       ⟨some 95, none, .bi .neq 0 (.t 93) (.t 94)⟩])
    (.cd (.t 95) (.sq (.rg none [⟨some 2, none, .mv (.k (.bool false)) none⟩])
     (.rt))
    (.sk)))
   (.sq (.rg none [⟨some 2, none, .mv (.k (.bool true)) none⟩])
   (.rt)))))))))))))))))))))))))) }
theorem k_laws_FnExactFreeSorting : chkF Go.Proofs.Tryd.prog fid_laws_FnExactFreeSorting c_laws_FnExactFreeSorting = true := by kernel_rfl

def c_laws_markControlS : F2 :=
  { nt := 35, res := [.t 4 [0]], body :=
   (.sq (.rg none [⟨some 4, none, .mv (.k (.int .i64 0)) none⟩])
   (.sq (.sq (.rg none [⟨some 5, none, .mv (.k (.int .i64 0)) none⟩])
    (.bl 0 (.lp [0, 1, 5] [] (.sq (.sq (.rg none [⟨some 6, none, .mv (.t 5) none⟩,
          ⟨some 7, none, .mv (.t 0) none⟩,
          ⟨some 8, none, .ln (.t 7)⟩,
          ⟨some 9, none, .bi .lss 0 (.t 6) (.t 8)⟩])
       (.cd (.t 9) (.sk)
       (.ex 0)))
      (.sq (.bl 1 (.sq (.rg none [⟨some 12, none, .mv (.t 0) none⟩,
           ⟨some 13, none, .mv (.t 5) none⟩,
           ⟨some 14, none, .mv (.t 1) none⟩,
           ⟨some 15, none, .ca .pure false (.f fid_laws_markText) [.t 14]⟩,
           ⟨some 16, none, .ia 3 (.t 12) (.t 13)⟩,
           ⟨some 17, none, .fa 0 (.t 16)⟩,
           ⟨none, none, .st 1 (.t 17) (.t 15)⟩])
        (.sq (.rg none [⟨some 18, none, .mv (.t 1) none⟩,
           ⟨some 19, none, .bi .add 0 (.t 18) (.k (.int .i64 1))⟩,
           ⟨some 1, none, .mv (.t 19) none⟩])
        (.sq (.rg none [⟨some 20, none, .mv (.t 0) none⟩,
           ⟨some 21, none, .mv (.t 5) none⟩,
           ⟨some 22, none, .mv (.t 1) none⟩,
           ⟨some 23, none, .ia 3 (.t 20) (.t 21)⟩,
           ⟨some 24, none, .fa 1 (.t 23)⟩,
           ⟨none, none, .st 1 (.t 24) (.t 22)⟩])
        (.sq (.rg none [⟨some 25, none, .mv (.t 1) none⟩,
           ⟨some 26, none, .bi .add 0 (.t 25) (.k (.int .i64 1))⟩,
           ⟨some 1, none, .mv (.t 26) none⟩])
        (.sq (.rg none [⟨some 27, none, .mv (.t 0) none⟩,
           ⟨some 28, none, .mv (.t 5) none⟩,
           ⟨some 29, none, .mv (.t 1) none⟩,
           ⟨some 30, none, .ia 3 (.t 27) (.t 28)⟩,
           ⟨some 31, none, .fa 2 (.t 30)⟩,
           ⟨none, none, .st 1 (.t 31) (.t 29)⟩])
        (.rg none [⟨some 32, none, .mv (.t 1) none⟩,
          ⟨some 33, none, .bi .add 0 (.t 32) (.k (.int .i64 1))⟩,
          ⟨some 1, none, .mv (.t 33) none⟩])))))))
      (.rg none [⟨some 10, none, .mv (.t 5) none⟩,
        ⟨some 11, none, .bi .add 0 (.t 10) (.k (.int .i64 1))⟩,
        ⟨some 5, none, .mv (.t 11) none⟩]))))))
   (.sq (.rg none [⟨some 34, none, .mv (.t 1) none⟩,
      ⟨some 4, none, .mv (.t 34) none⟩])
   (.rt)))) }
theorem k_laws_markControlS : chkF Go.Proofs.Tryd.prog fid_laws_markControlS c_laws_markControlS = true := by kernel_rfl

def c_laws_markSorting : F2 :=
  { nt := 26, res := [.t 4 [0]], body :=
   (.sq (.rg none [⟨some 2, none, .bx (.t 0)⟩,
      ⟨some 4, none, .mv (.k (.int .i64 0)) none⟩])
   (.sq (.rg none [⟨some 5, none, .fa 0 (.t 2)⟩,
      ⟨some 6, none, .ld none (.t 5)⟩,
      ⟨some 7, none, .mv (.t 1) none⟩,
      ⟨some 8, none, .ca .any true (.f fid_laws_markIntS) [.t 6, .t 7]⟩,
      ⟨some 1, none, .mv (.t 8) none⟩])
   (.sq (.rg none [⟨some 9, none, .fa 1 (.t 2)⟩,
      ⟨some 10, none, .ld none (.t 9)⟩,
      ⟨some 11, none, .mv (.t 1) none⟩,
      ⟨some 12, none, .ca .any true (.f fid_laws_markIntSS) [.t 10, .t 11]⟩,
      ⟨some 1, none, .mv (.t 12) none⟩])
   (.sq (.rg none [⟨some 13, none, .fa 2 (.t 2)⟩,
      ⟨some 14, none, .ld none (.t 13)⟩,
      ⟨some 15, none, .mv (.t 1) none⟩,
      ⟨some 16, none, .ca .any true (.f fid_laws_markIntSS) [.t 14, .t 15]⟩,
      ⟨some 1, none, .mv (.t 16) none⟩])
   (.sq (.rg none [⟨some 17, none, .fa 3 (.t 2)⟩,
      ⟨some 18, none, .ld none (.t 17)⟩,
      ⟨some 19, none, .mv (.t 1) none⟩,
      ⟨some 20, none, .ca .any true (.f fid_laws_markIntS) [.t 18, .t 19]⟩,
      ⟨some 1, none, .mv (.t 20) none⟩])
   (.sq (.rg none [⟨some 21, none, .fa 4 (.t 2)⟩,
      ⟨some 22, none, .ld none (.t 21)⟩,
      ⟨some 23, none, .mv (.t 1) none⟩,
      ⟨some 24, none, .ca .any true (.f fid_laws_markIntA2S) [.t 22, .t 23]⟩,
      ⟨some 1, none, .mv (.t 24) none⟩])
   (.sq (.rg none [⟨some 25, none, .mv (.t 1) none⟩,
      ⟨some 4, none, .mv (.t 25) none⟩])
   (.rt)))))))) }
theorem k_laws_markSorting : chkF Go.Proofs.Tryd.prog fid_laws_markSorting c_laws_markSorting = true := by kernel_rfl

def c_laws_heldSorting : F2 :=
  { nt := 36, res := [.t 4 [0]], body :=
   (.sq (.rg none [⟨some 2, none, .bt (.t 0)⟩,
      ⟨some 4, none, .mv (.k (.int .i64 0)) none⟩])
   (.sq (.rg none [⟨some 5, none, .fa 0 (.t 2)⟩,
      ⟨some 6, none, .ld none (.t 5)⟩,
      ⟨some 7, none, .mv (.t 1) none⟩,
      ⟨some 8, none, .ca .pure false (.f fid_laws_heldIntS) [.t 6, .t 7]⟩,
      ⟨some 1, none, .mv (.t 8) none⟩])
   (.sq (.sq (.rg none [⟨some 9, none, .mv (.t 1) none⟩,
       ⟨some 10, none, .bi .lss 0 (.t 9) (.k (.int .i64 0))⟩])
    (.cd (.t 10) (.sq (.rg none [⟨some 4, none, .mv (.k (.int .i64 (-1))) none⟩])
     (.rt))
    (.sk)))
   (.sq (.rg none [⟨some 11, none, .fa 1 (.t 2)⟩,
      ⟨some 12, none, .ld none (.t 11)⟩,
      ⟨some 13, none, .mv (.t 1) none⟩,
      ⟨some 14, none, .ca .pure false (.f fid_laws_heldIntSS) [.t 12, .t 13]⟩,
      ⟨some 1, none, .mv (.t 14) none⟩])
   (.sq (.sq (.rg none [⟨some 15, none, .mv (.t 1) none⟩,
       ⟨some 16, none, .bi .lss 0 (.t 15) (.k (.int .i64 0))⟩])
    (.cd (.t 16) (.sq (.rg none [⟨some 4, none, .mv (.k (.int .i64 (-1))) none⟩])
     (.rt))
    (.sk)))
   (.sq (.rg none [⟨some 17, none, .fa 2 (.t 2)⟩,
      ⟨some 18, none, .ld none (.t 17)⟩,
      ⟨some 19, none, .mv (.t 1) none⟩,
      ⟨some 20, none, .ca .pure false (.f fid_laws_heldIntSS) [.t 18, .t 19]⟩,
      ⟨some 1, none, .mv (.t 20) none⟩])
   (.sq (.sq (.rg none [⟨some 21, none, .mv (.t 1) none⟩,
       ⟨some 22, none, .bi .lss 0 (.t 21) (.k (.int .i64 0))⟩])
    (.cd (.t 22) (.sq (.rg none [⟨some 4, none, .mv (.k (.int .i64 (-1))) none⟩])
     (.rt))
    (.sk)))
   (.sq (.rg none [⟨some 23, none, .fa 3 (.t 2)⟩,
      ⟨some 24, none, .ld none (.t 23)⟩,
      ⟨some 25, none, .mv (.t 1) none⟩,
      ⟨some 26, none, .ca .pure false (.f fid_laws_heldIntS) [.t 24, .t 25]⟩,
      ⟨some 1, none, .mv (.t 26) none⟩])
   (.sq (.sq (.rg none [⟨some 27, none, .mv (.t 1) none⟩,
       ⟨some 28, none, .bi .lss 0 (.t 27) (.k (.int .i64 0))⟩])
    (.cd (.t 28) (.sq (.rg none [⟨some 4, none, .mv (.k (.int .i64 (-1))) none⟩])
     (.rt))
    (.sk)))
   (.sq (.rg none [⟨some 29, none, .fa 4 (.t 2)⟩,
      ⟨some 30, none, .ld none (.t 29)⟩,
      ⟨some 31, none, .mv (.t 1) none⟩,
      ⟨some 32, none, .ca .pure false (.f fid_laws_heldIntA2S) [.t 30, .t 31]⟩,
      ⟨some 1, none, .mv (.t 32) none⟩])
   (.sq (.sq (.rg none [⟨some 33, none, .mv (.t 1) none⟩,
       ⟨some 34, none, .bi .lss 0 (.t 33) (.k (.int .i64 0))⟩])
    (.cd (.t 34) (.sq (.rg none [⟨some 4, none, .mv (.k (.int .i64 (-1))) none⟩])
     (.rt))
    (.sk)))
   (.sq (.rg none [⟨some 35, none, .mv (.t 1) none⟩,
      ⟨some 4, none, .mv (.t 35) none⟩])
   (.rt))))))))))))) }
theorem k_laws_heldSorting : chkF Go.Proofs.Tryd.prog fid_laws_heldSorting c_laws_heldSorting = true := by kernel_rfl

def c_laws_markText : F2 :=
  { nt := 20, res := [.t 2 [0]], body :=
   (.sq (.rg none [⟨some 2, none, .mv (.k (.string ⟨#[]⟩)) none⟩])
   (.sq (.sq (.rg none [⟨some 4, none, .mv (.t 0) none⟩,
       ⟨some 5, none, .bi .leq 0 (.t 4) (.k (.int .i64 0))⟩])
    (.cd (.t 5) (.sq (.rg none [⟨some 2, none, .mv (.k (.string ⟨#[109, 48]⟩)) none⟩])
     (.rt))
    (.sk)))
   (.sq (.rg none [⟨some 3, none, .mv (.k (.string ⟨#[]⟩)) none⟩])
   (.sq (.bl 0 (.lp [0, 3] [] (.sq (.sq (.rg none [⟨some 6, none, .mv (.t 0) none⟩,
          ⟨some 7, none, .bi .gtr 0 (.t 6) (.k (.int .i64 0))⟩])
       (.cd (.t 7) (.sk)
       (.ex 0)))
      (.bl 1 (.sq (.rg none [⟨some 8, none, .mv (.t 0) none⟩,
          ⟨some 9, none, .bi .rem 0 (.t 8) (.k (.int .i64 10))⟩,
          ⟨some 10, none, .bi .add 0 (.k (.int .i64 48)) (.t 9)⟩,
          ⟨some 11, none, .cv (.int .u8) (.t 10)⟩,
          ⟨some 12, none, .bs 1 1 [.int .u8 0] [(0, .t 11)]⟩,
          ⟨some 13, none, .sb (.t 12)⟩,
          ⟨some 14, none, .mv (.t 3) none⟩,
          ⟨some 15, none, .bi .add 0 (.t 13) (.t 14)⟩,
          ⟨some 3, none, .mv (.t 15) none⟩])
       (.rg none [⟨some 16, none, .mv (.t 0) none⟩,
         ⟨some 17, none, .bi .quo 0 (.t 16) (.k (.int .i64 10))⟩,
         ⟨some 0, none, .mv (.t 17) none⟩]))))))
   (.sq (.rg none [⟨some 18, none, .mv (.t 3) none⟩,
      ⟨some 19, none, .bi .add 0 (.k (.string ⟨#[109]⟩)) (.t 18)⟩,
      ⟨some 2, none, .mv (.t 19) none⟩])
   (.rt)))))) }
theorem k_laws_markText : chkF Go.Proofs.Tryd.prog fid_laws_markText c_laws_markText = true := by kernel_rfl

def c_laws_markIntS : F2 :=
  { nt := 19, res := [.t 4 [0]], body :=
   (.sq (.rg none [⟨some 4, none, .mv (.k (.int .i64 0)) none⟩])
   (.sq (.sq (.rg none [⟨some 5, none, .mv (.k (.int .i64 0)) none⟩])
    (.bl 0 (.lp [0, 1, 5] [] (.sq (.sq (.rg none [⟨some 6, none, .mv (.t 5) none⟩,
          ⟨some 7, none, .mv (.t 0) none⟩,
          ⟨some 8, none, .ln (.t 7)⟩,
          ⟨some 9, none, .bi .lss 0 (.t 6) (.t 8)⟩])
       (.cd (.t 9) (.sk)
       (.ex 0)))
      (.sq (.bl 1 (.sq (.rg none [⟨some 12, none, .mv (.t 0) none⟩,
           ⟨some 13, none, .mv (.t 5) none⟩,
           ⟨some 14, none, .mv (.t 1) none⟩,
           ⟨some 15, none, .ia 1 (.t 12) (.t 13)⟩,
           ⟨none, none, .st 1 (.t 15) (.t 14)⟩])
        (.rg none [⟨some 16, none, .mv (.t 1) none⟩,
          ⟨some 17, none, .bi .add 0 (.t 16) (.k (.int .i64 1))⟩,
          ⟨some 1, none, .mv (.t 17) none⟩])))
      (.rg none [⟨some 10, none, .mv (.t 5) none⟩,
        ⟨some 11, none, .bi .add 0 (.t 10) (.k (.int .i64 1))⟩,
        ⟨some 5, none, .mv (.t 11) none⟩]))))))
   (.sq (.rg none [⟨some 18, none, .mv (.t 1) none⟩,
      ⟨some 4, none, .mv (.t 18) none⟩])
   (.rt)))) }
theorem k_laws_markIntS : chkF Go.Proofs.Tryd.prog fid_laws_markIntS c_laws_markIntS = true := by kernel_rfl

def c_laws_markIntSS : F2 :=
  { nt := 19, res := [.t 4 [0]], body :=
   (.sq (.rg none [⟨some 4, none, .mv (.k (.int .i64 0)) none⟩])
   (.sq (.sq (.rg none [⟨some 5, none, .mv (.k (.int .i64 0)) none⟩])
    (.bl 0 (.lp [0, 1, 5] [] (.sq (.sq (.rg none [⟨some 6, none, .mv (.t 5) none⟩,
          ⟨some 7, none, .mv (.t 0) none⟩,
          ⟨some 8, none, .ln (.t 7)⟩,
          ⟨some 9, none, .bi .lss 0 (.t 6) (.t 8)⟩])
       (.cd (.t 9) (.sk)
       (.ex 0)))
      (.sq (.bl 1 (.rg none [⟨some 12, none, .mv (.t 0) none⟩,
          ⟨some 13, none, .mv (.t 5) none⟩,
          ⟨some 14, none, .ia 1 (.t 12) (.t 13)⟩,
          ⟨some 15, none, .ld none (.t 14)⟩,
          ⟨some 16, none, .mv (.t 1) none⟩,
          ⟨some 17, none, .ca .any true (.f fid_laws_markIntS) [.t 15, .t 16]⟩,
          ⟨some 1, none, .mv (.t 17) none⟩]))
      (.rg none [⟨some 10, none, .mv (.t 5) none⟩,
        ⟨some 11, none, .bi .add 0 (.t 10) (.k (.int .i64 1))⟩,
        ⟨some 5, none, .mv (.t 11) none⟩]))))))
   (.sq (.rg none [⟨some 18, none, .mv (.t 1) none⟩,
      ⟨some 4, none, .mv (.t 18) none⟩])
   (.rt)))) }
theorem k_laws_markIntSS : chkF Go.Proofs.Tryd.prog fid_laws_markIntSS c_laws_markIntSS = true := by kernel_rfl

def c_laws_markIntA2S : F2 :=
  { nt := 26, res := [.t 4 [0]], body :=
   (.sq (.rg none [⟨some 4, none, .mv (.k (.int .i64 0)) none⟩])
   (.sq (.sq (.rg none [⟨some 5, none, .mv (.k (.int .i64 0)) none⟩])
    (.bl 0 (.lp [0, 1, 5] [] (.sq (.sq (.rg none [⟨some 7, none, .mv (.t 5) none⟩,
          ⟨some 8, none, .mv (.t 0) none⟩,
          ⟨some 9, none, .ln (.t 8)⟩,
          ⟨some 10, none, .bi .lss 0 (.t 7) (.t 9)⟩])
       (.cd (.t 10) (.sk)
       (.ex 0)))
      (.sq (.bl 1 (.sq (.rg none [⟨some 6, none, .mv (.k (.int .i64 0)) none⟩])
        (.bl 2 (.lp [0, 1, 5, 6] [] (.sq (.sq (.rg none [⟨some 13, none, .mv (.t 6) none⟩,
              ⟨some 14, none, .bi .lss 0 (.t 13) (.k (.int .i64 2))⟩])
           (.cd (.t 14) (.sk)
           (.ex 2)))
          (.sq (.bl 3 (.sq (.rg none [⟨some 17, none, .mv (.t 0) none⟩,
               ⟨some 18, none, .mv (.t 5) none⟩,
               ⟨some 19, none, .mv (.t 6) none⟩,
               ⟨some 20, none, .mv (.t 1) none⟩,
               ⟨some 21, none, .ia 2 (.t 17) (.t 18)⟩,
               ⟨some 22, none, .ja 1 2 (.t 21) (.t 19)⟩,
               ⟨none, none, .st 1 (.t 22) (.t 20)⟩])
            (.rg none [⟨some 23, none, .mv (.t 1) none⟩,
              ⟨some 24, none, .bi .add 0 (.t 23) (.k (.int .i64 1))⟩,
              ⟨some 1, none, .mv (.t 24) none⟩])))
          (.rg none [⟨some 15, none, .mv (.t 6) none⟩,
            ⟨some 16, none, .bi .add 0 (.t 15) (.k (.int .i64 1))⟩,
            ⟨some 6, none, .mv (.t 16) none⟩])))))))
      (.rg none [⟨some 11, none, .mv (.t 5) none⟩,
        ⟨some 12, none, .bi .add 0 (.t 11) (.k (.int .i64 1))⟩,
        ⟨some 5, none, .mv (.t 12) none⟩]))))))
   (.sq (.rg none [⟨some 25, none, .mv (.t 1) none⟩,
      ⟨some 4, none, .mv (.t 25) none⟩])
   (.rt)))) }
theorem k_laws_markIntA2S : chkF Go.Proofs.Tryd.prog fid_laws_markIntA2S c_laws_markIntA2S = true := by kernel_rfl

def c_laws_heldIntS : F2 :=
  { nt := 21, res := [.t 4 [0]], body :=
   (.sq (.rg none [⟨some 4, none, .mv (.k (.int .i64 0)) none⟩])
   (.sq (.sq (.rg none [⟨some 5, none, .mv (.k (.int .i64 0)) none⟩])
    (.bl 0 (.lp [0, 1, 5] [] (.sq (.sq (.rg none [⟨some 6, none, .mv (.t 5) none⟩,
          ⟨some 7, none, .mv (.t 0) none⟩,
          ⟨some 8, none, .ln (.t 7)⟩,
          ⟨some 9, none, .bi .lss 0 (.t 6) (.t 8)⟩])
       (.cd (.t 9) (.sk)
       (.ex 0)))
      (.sq (.bl 1 (.sq (.sq (.rg none [⟨some 12, none, .mv (.t 0) none⟩,
            ⟨some 13, none, .mv (.t 5) none⟩,
            ⟨some 14, none, .ia 1 (.t 12) (.t 13)⟩,
            ⟨some 15, none, .ld none (.t 14)⟩,
            ⟨some 16, none, .mv (.t 1) none⟩,
            ⟨some 17, none, .bi .neq 0 (.t 15) (.t 16)⟩])
         (.cd (.t 17) (.sq (.rg none [⟨some 4, none, .mv (.k (.int .i64 (-1))) none⟩])
          (.rt))
         (.sk)))
        (.rg none [⟨some 18, none, .mv (.t 1) none⟩,
          ⟨some 19, none, .bi .add 0 (.t 18) (.k (.int .i64 1))⟩,
          ⟨some 1, none, .mv (.t 19) none⟩])))
      (.rg none [⟨some 10, none, .mv (.t 5) none⟩,
        ⟨some 11, none, .bi .add 0 (.t 10) (.k (.int .i64 1))⟩,
        ⟨some 5, none, .mv (.t 11) none⟩]))))))
   (.sq (.rg none [⟨some 20, none, .mv (.t 1) none⟩,
      ⟨some 4, none, .mv (.t 20) none⟩])
   (.rt)))) }
theorem k_laws_heldIntS : chkF Go.Proofs.Tryd.prog fid_laws_heldIntS c_laws_heldIntS = true := by kernel_rfl

def c_laws_heldIntSS : F2 :=
  { nt := 21, res := [.t 4 [0]], body :=
   (.sq (.rg none [⟨some 4, none, .mv (.k (.int .i64 0)) none⟩])
   (.sq (.sq (.rg none [⟨some 5, none, .mv (.k (.int .i64 0)) none⟩])
    (.bl 0 (.lp [0, 1, 5] [] (.sq (.sq (.rg none [⟨some 6, none, .mv (.t 5) none⟩,
          ⟨some 7, none, .mv (.t 0) none⟩,
          ⟨some 8, none, .ln (.t 7)⟩,
          ⟨some 9, none, .bi .lss 0 (.t 6) (.t 8)⟩])
       (.cd (.t 9) (.sk)
       (.ex 0)))
      (.sq (.bl 1 (.sq (.rg none [⟨some 12, none, .mv (.t 0) none⟩,
           ⟨some 13, none, .mv (.t 5) none⟩,
           ⟨some 14, none, .ia 1 (.t 12) (.t 13)⟩,
           ⟨some 15, none, .ld none (.t 14)⟩,
           ⟨some 16, none, .mv (.t 1) none⟩,
           ⟨some 17, none, .ca .pure false (.f fid_laws_heldIntS) [.t 15, .t 16]⟩,
           ⟨some 1, none, .mv (.t 17) none⟩])
        (.sq (.rg none [⟨some 18, none, .mv (.t 1) none⟩,
           ⟨some 19, none, .bi .lss 0 (.t 18) (.k (.int .i64 0))⟩])
        (.cd (.t 19) (.sq (.rg none [⟨some 4, none, .mv (.k (.int .i64 (-1))) none⟩])
         (.rt))
        (.sk)))))
      (.rg none [⟨some 10, none, .mv (.t 5) none⟩,
        ⟨some 11, none, .bi .add 0 (.t 10) (.k (.int .i64 1))⟩,
        ⟨some 5, none, .mv (.t 11) none⟩]))))))
   (.sq (.rg none [⟨some 20, none, .mv (.t 1) none⟩,
      ⟨some 4, none, .mv (.t 20) none⟩])
   (.rt)))) }
theorem k_laws_heldIntSS : chkF Go.Proofs.Tryd.prog fid_laws_heldIntSS c_laws_heldIntSS = true := by kernel_rfl

def c_laws_heldIntA2S : F2 :=
  { nt := 28, res := [.t 4 [0]], body :=
   (.sq (.rg none [⟨some 4, none, .mv (.k (.int .i64 0)) none⟩])
   (.sq (.sq (.rg none [⟨some 5, none, .mv (.k (.int .i64 0)) none⟩])
    (.bl 0 (.lp [0, 1, 5] [] (.sq (.sq (.rg none [⟨some 7, none, .mv (.t 5) none⟩,
          ⟨some 8, none, .mv (.t 0) none⟩,
          ⟨some 9, none, .ln (.t 8)⟩,
          ⟨some 10, none, .bi .lss 0 (.t 7) (.t 9)⟩])
       (.cd (.t 10) (.sk)
       (.ex 0)))
      (.sq (.bl 1 (.sq (.rg none [⟨some 6, none, .mv (.k (.int .i64 0)) none⟩])
        (.bl 2 (.lp [0, 1, 5, 6] [] (.sq (.sq (.rg none [⟨some 13, none, .mv (.t 6) none⟩,
              ⟨some 14, none, .bi .lss 0 (.t 13) (.k (.int .i64 2))⟩])
           (.cd (.t 14) (.sk)
           (.ex 2)))
          (.sq (.bl 3 (.sq (.sq (.rg none [⟨some 17, none, .mv (.t 0) none⟩,
                ⟨some 18, none, .mv (.t 5) none⟩,
                ⟨some 19, none, .mv (.t 6) none⟩,
                ⟨some 20, none, .ia 2 (.t 17) (.t 18)⟩,
                ⟨some 21, none, .ja 1 2 (.t 20) (.t 19)⟩,
                ⟨some 22, none, .ld none (.t 21)⟩,
                ⟨some 23, none, .mv (.t 1) none⟩,
                ⟨some 24, none, .bi .neq 0 (.t 22) (.t 23)⟩])
             (.cd (.t 24) (.sq (.rg none [⟨some 4, none, .mv (.k (.int .i64 (-1))) none⟩])
              (.rt))
             (.sk)))
            (.rg none [⟨some 25, none, .mv (.t 1) none⟩,
              ⟨some 26, none, .bi .add 0 (.t 25) (.k (.int .i64 1))⟩,
              ⟨some 1, none, .mv (.t 26) none⟩])))
          (.rg none [⟨some 15, none, .mv (.t 6) none⟩,
            ⟨some 16, none, .bi .add 0 (.t 15) (.k (.int .i64 1))⟩,
            ⟨some 6, none, .mv (.t 16) none⟩])))))))
      (.rg none [⟨some 11, none, .mv (.t 5) none⟩,
        ⟨some 12, none, .bi .add 0 (.t 11) (.k (.int .i64 1))⟩,
        ⟨some 5, none, .mv (.t 12) none⟩]))))))
   (.sq (.rg none [⟨some 27, none, .mv (.t 1) none⟩,
      ⟨some 4, none, .mv (.t 27) none⟩])
   (.rt)))) }
theorem k_laws_heldIntA2S : chkF Go.Proofs.Tryd.prog fid_laws_heldIntA2S c_laws_heldIntA2S = true := by kernel_rfl

end Go.Fd

/-
  THE TEXT OF A MARK; THE MARKS OF NUMBERS AND TEXTS. Own work.
-/
namespace Go.Fd
set_option maxRecDepth 20000
abbrev mInt (_ : Int) (k : Int) : Int := k
abbrev nInt (_ : Int) : Nat := 1
def mt (q : Nat) (o : ByteArray) : ByteArray := if q = 0 then o else mt (q / 10) (⟨#[UInt8.ofNat (48 + q % 10)]⟩ ++ o)
  termination_by q
  decreasing_by omega
theorem mt_pos {q : Nat} {o : ByteArray} (h : 0 < q) : mt q o = mt (q / 10) (⟨#[UInt8.ofNat (48 + q % 10)]⟩ ++ o) := by
  rw [mt, if_neg (by omega)]
theorem mt_zero {o : ByteArray} : mt 0 o = o := by rw [mt, if_pos rfl]
def markT (k : Int) : ByteArray := if k ≤ 0 then ⟨#[109, 48]⟩ else ⟨#[109]⟩ ++ mt k.toNat ⟨#[]⟩
theorem sem_markText (k : Int) (h : k ≤ 4611686018427387904) (lvl : Nat) (S : Sto) : Sem Go.Proofs.Tryd.prog fid_laws_markText lvl [iI k] S (iS (markT k)) S := by
  refine sem_of_chk k_laws_markText trivial ?_
  simp only [c_laws_markText, r_cons, r_nil, r_kont, r_seq1, r_seq3, r_fn2, r_sk, r_rg, r_sq, r_bl, r_rt, r_cd, r_cd2, r_wpF, r_op1, r_go1, r_mv, r_bi, r_lei, r_fin, r_kfe1, r_kcx, r_exps0, r_exps1, r_kex, r_exp1, r_expv2, r_lt1, ptd, lk, pt, xv, kv, kc, params, ↓reduceIte, Nat.reduceEqDiff, reduceCtorEq, List.length_cons, List.length_nil, Nat.reduceLeDiff, Nat.reduceLT, true_and, and_true, decide_eq_true_eq, Nat.zero_add]
  unfold markT
  refine ite_of (fun h0 => ?_) (fun h0 => ?_)
  · rw [if_pos h0]
  · rw [if_neg h0]
    obtain ⟨K, hK⟩ : ∃ K : Nat, k = K := ⟨k.toNat, by omega⟩
    subst hK
    rw [Int.toNat_natCast]
    refine wp_count (α := Nat × ByteArray) K (fun j y => ⟨lvl, [(0, iI y.1), (3, iS y.2)], [], S⟩) (fun j y => y.1 + j ≤ K ∧ mt y.1 y.2 = mt K ⟨#[]⟩ ∧ y.1 * 10 ^ y.2.size ≤ K ∧ y.2.size ≤ 19) (K, ⟨#[]⟩) ⟨by simp only [r_clean, r_okm4, r_okE0, r_okE1, r_okL0, ↓reduceIte, Nat.reduceEqDiff, reduceCtorEq, memB, keepB, keepOB, Bool.false_eq_true, and_self], by simp only [r_fgt, ↓reduceIte, Nat.reduceEqDiff, reduceCtorEq, memB, keepB, keepOB, Bool.false_eq_true]⟩ ⟨Nat.le_refl _, rfl, Nat.le_of_eq (Nat.mul_one K), (by decide : (0 : Nat) ≤ 19)⟩ ?_
    intro j y hj hA
    obtain ⟨q, o⟩ := y
    obtain ⟨h1, h2, h3, h4⟩ := hA
    simp only at h1 h2 h3 h4
    simp only [r_cons, r_nil, r_kont, r_seq1, r_seq2, r_blk2, r_fn2, r_sk, r_rg, r_sq, r_bl, r_ex, r_rt, r_cd, r_cd2, r_op1, r_go1, r_mv, r_bs, r_fills0, r_fills1, r_fl2, r_kfill, r_bi, r_add0, r_rem, r_gti, r_adds, r_cv, r_cv1, r_op3, r_rde, r_rd3, r_stamp0, r_pack, r_sbh, r_sb, r_sb3, r_fin, r_kfe1, r_kcx, r_exps0, r_exps1, r_kex, r_exp1, r_expv2, r_round2, r_rep1, r_cut1, r_lt1, bigN, ptd, keyOf, freshK, lk, pt, lkO, ptO, xv, kv, kc, trv, ↓reduceIte, Nat.reduceEqDiff, Nat.reduceMul, reduceCtorEq, List.length_cons, List.length_nil, Nat.reduceLT, true_and, and_true, decide_eq_true_eq, List.map_cons, List.map_nil, Int.reduceLT, isCell, Bool.and_self, cellsOf, totr, totrs, tocs, getp, Nat.zero_add, List.set_cons_zero, Int.natCast_nonneg, Nat.le_refl, and_self]
    refine ite_of (fun hq => ?_) (fun hq => ?_)
    · have hq0 : 0 < q := by omega
      have hby : byR [[Tr.v (Value.int IntKind.u8 (48 + (q : Int) % 10))]] = some [UInt8.ofNat (48 + q % 10)] := by
        have e : (48 + (q : Int) % 10).toNat = 48 + q % 10 := by omega
        simp only [byR, Option.map_some, e]
      have h5 : o.size < 19 := by
        apply Classical.byContradiction
        intro hc
        have e : o.size = 19 := by omega
        rw [e] at h3
        have : 1 * 10 ^ 19 ≤ q * 10 ^ 19 := Nat.mul_le_mul_right _ hq0
        omega
      have h6 : q / 10 * 10 ^ (o.size + 1) ≤ K := by
        refine Nat.le_trans ?_ h3
        rw [Nat.pow_succ, Nat.mul_comm (10 ^ o.size) 10, ← Nat.mul_assoc]
        exact Nat.mul_le_mul_right _ (by omega)
      rw [hby]
      simp only [r_cons, r_nil, r_kont, r_seq1, r_blk1, r_rg, r_op1, r_go1, r_mv, r_bi, r_quo, r_adds, r_op3, r_sby, r_fgt, r_clean, r_okm4, r_okE0, r_okE1, r_okL0, r_round1, bigN, ptd, lk, pt, xv, kv, kc, ↓reduceIte, Nat.reduceEqDiff, reduceCtorEq, Nat.reduceLT, true_and, memB, keepB, keepOB, Bool.false_eq_true, Int.reduceLT, Int.natCast_nonneg, and_self]
      have hs : (ByteArray.mk #[UInt8.ofNat (48 + q % 10)] ++ o).size = o.size + 1 := by
        rw [ByteArray.size_append, Nat.add_comm]; rfl
      have e8 : fits .u8 (48 + (q : Int) % 10) := by
        constructor
        · show (0 : Int) ≤ _; omega
        · show _ ≤ (255 : Int); omega
      refine ⟨by rw [fits_i64]; omega, e8, ?_, by rw [fits_i64]; omega, cntJ_intro (q / 10, ByteArray.mk #[UInt8.ofNat (48 + q % 10)] ++ o) (by omega) ?_ ⟨by simp only; omega, ?_, ?_, ?_⟩⟩
      · show 1 + o.size ≤ 4294967296
        omega
      · rfl
      · rw [← h2, mt_pos hq0]
      · simp only [hs]; exact h6
      · simp only [hs]; omega
    · have : q = 0 := by omega
      subst this
      rw [← h2, mt_zero]
      refine ⟨?_, rfl⟩
      show 1 + o.size ≤ 4294967296
      omega
end Go.Fd

/-
  WHAT THE MARKING FUNCTIONS DO (printed by lawgen.py). Own work.
-/
namespace Go.Fd
set_option maxRecDepth 20000
theorem mark_IntS : MarkS Go.Proofs.Tryd.prog fid_laws_markIntS (fun n : Int => [tv n]) mInt nInt (fun _ => True) := by
  intro a k lvl S id p es r0 kk hw ver st cap hid hv hst h0 hk hl hB
  have hne : id.1 ≠ lvl := by omega
  have hgp : ∀ r, getp (putp es p r) p = some r := fun r => getp_putp hv
  refine sem_of_chk k_laws_markIntS trivial ?_
  simp only [c_laws_markIntS, r_cons, r_nil, r_kont, r_seq1, r_rg, r_sq, r_bl, r_wpF, r_op1, r_mv, ptd, pt, xv, kv, kc, params, ↓reduceIte, Nat.reduceEqDiff, reduceCtorEq, List.length_cons, List.length_nil, Nat.reduceAdd, Nat.reduceLeDiff, Nat.reduceLT, true_and, Nat.zero_add]
  refine wp_count (α := Unit) a.length (fun j _ => ⟨lvl, [(0, .hd id p 0 a.length cap st), (1, iI (kJ nInt a k j)), (5, iI j)], [], sset S id (.ar kk (putp es p ((lJ mInt nInt a k j).map (fun n : Int => [tv n]))) true hw ver)⟩) (fun _ _ => True) () ⟨by simp only [r_okmo hne, r_clean, r_okm4, r_okE0, r_okE1, r_okL0, ↓reduceIte, Nat.reduceEqDiff, reduceCtorEq, memB, keepB, keepOB, Bool.false_eq_true, and_self], by (simp only [kJ_zero, lJ_zero, r_fgt, ↓reduceIte, Nat.reduceEqDiff, reduceCtorEq, memB, keepB, keepOB, Bool.false_eq_true, Int.cast_ofNat_Int]) <;> rfl⟩ trivial ?_
  intro j _ hj _
  simp only [r_cons, r_nil, r_kont, r_seq1, r_seq2, r_blk2, r_fn2, r_sk, r_rg, r_sq, r_bl, r_ex, r_rt, r_cd, r_cd2, r_op1, r_go1, r_mv, r_bi, r_lti, r_ln, r_ln3, r_ixn, r_ia, r_ia3, r_fin, r_kfe1, r_kcx, r_exps0, r_exps1, r_kex, r_exp1, r_expv2, r_round2, r_lt1, ptd, lk, pt, xv, ↓reduceIte, Nat.reduceEqDiff, reduceCtorEq, Nat.reduceLT, true_and, decide_eq_true_eq, Int.toNat_natCast, Int.natCast_nonneg]
  refine ite_of (fun hlt => ?_) (fun hge => ?_)
  · have hja : j < a.length := by omega
    obtain ⟨R, hjR, hR, hR'⟩ := lJ_row mInt nInt (fun n : Int => [tv n]) (k := k) hja
    have hge2 := kJ_le nInt (a := a) (k := k) (j := j + 1)
    rw [kJ_succ nInt hja] at hge2
    have hge3 := kJ_ge nInt (a := a) (k := k) (j := j)
    rw [hR]
    try simp only [nInt] at hge2
    try simp only [r_packo hne, r_setObo hne, psset_sset, r_sset, hst, hgp, rset_get hjR, setp_row hv hjR, Nat.zero_add, hja, r_okmo hne, tv, r_cons, r_nil, r_kont, r_seq1, r_blk1, r_rg, r_op1, r_go1, r_mv, r_bi, r_add0, r_op3, r_rde, r_rd3, r_iah, r_iah2, r_sset, r_fgt, r_clean, r_okm4, r_okE0, r_okE1, r_okL0, r_round1, r_st, r_st2, r_kst, r_stcs0, r_stcs1, r_sc1, r_sc3, r_sc4, r_sc2, r_lt1, ptd, lk, pt, xv, kv, kc, ↓reduceIte, Nat.reduceEqDiff, reduceCtorEq, List.length_cons, List.length_nil, Nat.reduceLT, true_and, List.getElem?_cons_zero, isSc, memB, keepB, keepOB, Bool.false_eq_true, isCell, cellsOf, Nat.zero_add, List.set_cons_zero, and_self]
    refine ⟨by rw [fits_i64]; omega, ⟨by rw [fits_i64]; omega, cntJ_intro () hja ?_ trivial⟩⟩
    rw [kJ_succ nInt hja, hR']
    simp only [nInt, mInt, tv, Int.natCast_add, Int.natCast_one]
    try rfl
  · have : j = a.length := by omega
    subst this
    rw [kJ_all, lJ_all]
    exact ⟨rfl, rfl⟩
def mIntS (x : (List Int)) (k : Int) : (List Int) := mL mInt nInt x (k)
def nIntS (x : (List Int)) : Nat := nL nInt x
theorem mark_IntSS : MarkS Go.Proofs.Tryd.prog fid_laws_markIntSS (fun l => [Tr.sl (rI l)]) mIntS nIntS (fun x => x.length ≤ 4294967296) := by
  intro a k lvl S id p es r0 kk hw ver st cap hid hv hst h0 hk hl hB
  have hne : id.1 ≠ lvl := by omega
  have hgp : ∀ r, getp (putp es p r) p = some r := fun r => getp_putp hv
  refine sem_of_chk k_laws_markIntSS trivial ?_
  simp only [c_laws_markIntSS, r_cons, r_nil, r_kont, r_seq1, r_rg, r_sq, r_bl, r_wpF, r_op1, r_mv, ptd, pt, xv, kv, kc, params, ↓reduceIte, Nat.reduceEqDiff, reduceCtorEq, List.length_cons, List.length_nil, Nat.reduceAdd, Nat.reduceLeDiff, Nat.reduceLT, true_and, Nat.zero_add]
  refine wp_count (α := Unit) a.length (fun j _ => ⟨lvl, [(0, .hd id p 0 a.length cap st), (1, iI (kJ nIntS a k j)), (5, iI j)], [], sset S id (.ar kk (putp es p ((lJ mIntS nIntS a k j).map (fun l => [Tr.sl (rI l)]))) true hw ver)⟩) (fun _ _ => True) () ⟨by simp only [r_okmo hne, r_clean, r_okm4, r_okE0, r_okE1, r_okL0, ↓reduceIte, Nat.reduceEqDiff, reduceCtorEq, memB, keepB, keepOB, Bool.false_eq_true, and_self], by (simp only [kJ_zero, lJ_zero, r_fgt, ↓reduceIte, Nat.reduceEqDiff, reduceCtorEq, memB, keepB, keepOB, Bool.false_eq_true, Int.cast_ofNat_Int]) <;> rfl⟩ trivial ?_
  intro j _ hj _
  simp only [r_cons, r_nil, r_kont, r_seq1, r_seq2, r_blk2, r_fn2, r_sk, r_rg, r_sq, r_bl, r_ex, r_rt, r_cd, r_cd2, r_op1, r_go1, r_mv, r_bi, r_lti, r_ln, r_ln3, r_ixn, r_ia, r_ia3, r_fin, r_kfe1, r_kcx, r_exps0, r_exps1, r_kex, r_exp1, r_expv2, r_round2, r_lt1, ptd, lk, pt, xv, ↓reduceIte, Nat.reduceEqDiff, reduceCtorEq, Nat.reduceLT, true_and, decide_eq_true_eq, Int.toNat_natCast, Int.natCast_nonneg]
  refine ite_of (fun hlt => ?_) (fun hge => ?_)
  · have hja : j < a.length := by omega
    obtain ⟨R, hjR, hR, hR'⟩ := lJ_row mIntS nIntS (fun l => [Tr.sl (rI l)]) (k := k) hja
    have hge2 := kJ_le nIntS (a := a) (k := k) (j := j + 1)
    rw [kJ_succ nIntS hja] at hge2
    have hge3 := kJ_ge nIntS (a := a) (k := k) (j := j)
    rw [hR]
    try simp only [nIntS] at hge2
    have hb := hB _ (List.getElem_mem hja)
    have b0 : (a[j]).length ≤ 4294967296 := hb
    try simp only [r_packo hne, r_sset, hst, hgp, rset_get hjR, Nat.zero_add, hja, List.length_map, r_cons, r_kont, r_op1, r_go1, r_mv, r_op3, r_rde, r_rd3, r_iah, r_iah2, r_sset, r_lae, r_lae2, r_lae3, r_ld, r_ld3, r_cay, r_cay1, ptd, lk, pt, xv, ↓reduceIte, Nat.reduceEqDiff, reduceCtorEq, List.length_cons, List.length_nil, Nat.reduceLT, true_and, List.map_cons, List.map_nil, List.cons_append, List.nil_append, List.getElem?_cons_zero, cvt, Nat.zero_add, List.length_map]
    simp only [arg1]
    refine kcy_mark mark_IntS hid hv (by omega) (by omega) b0 (fun _ _ => trivial) hjR rfl (by simp only [List.length_map]) ?_
    simp only [List.set_cons_zero, r_okmo hne, tv, r_cons, r_nil, r_kont, r_seq1, r_blk1, r_rg, r_op1, r_go1, r_mv, r_bi, r_add0, r_fgt, r_clean, r_okm4, r_okE0, r_okE1, r_okL0, r_round1, r_lt1, ptd, lk, pt, xv, kv, kc, ↓reduceIte, Nat.reduceEqDiff, reduceCtorEq, Nat.reduceLT, true_and, memB, keepB, keepOB, Bool.false_eq_true, List.set_cons_zero, and_self]
    refine ⟨by rw [fits_i64]; omega, cntJ_intro () hja ?_ trivial⟩
    rw [kJ_succ nIntS hja, hR']
    simp only [nIntS, mIntS, Int.natCast_add, Int.natCast_one]
    try rfl
  · have : j = a.length := by omega
    subst this
    rw [kJ_all, lJ_all]
    exact ⟨rfl, rfl⟩
def mIntA2 (x : (Int × Int)) (k : Int) : (Int × Int) := (k, k + 1)
def nIntA2 (x : (Int × Int)) : Nat := 1 + 1
theorem mark_IntA2S : MarkS Go.Proofs.Tryd.prog fid_laws_markIntA2S cA2 mIntA2 nIntA2 (fun _ => True) := by
  intro a k lvl S id p es r0 kk hw ver st cap hid hv hst h0 hk hl hB
  have hne : id.1 ≠ lvl := by omega
  have hgp : ∀ r, getp (putp es p r) p = some r := fun r => getp_putp hv
  refine sem_of_chk k_laws_markIntA2S trivial ?_
  simp only [c_laws_markIntA2S, r_cons, r_nil, r_kont, r_seq1, r_rg, r_sq, r_bl, r_wpF, r_op1, r_mv, ptd, pt, xv, kv, kc, params, ↓reduceIte, Nat.reduceEqDiff, reduceCtorEq, List.length_cons, List.length_nil, Nat.reduceAdd, Nat.reduceLeDiff, Nat.reduceLT, true_and, Nat.zero_add]
  refine wp_count (α := Unit) a.length (fun j _ => ⟨lvl, [(0, .hd id p 0 a.length cap st), (1, iI (kJ nIntA2 a k j)), (5, iI j)], [], sset S id (.ar kk (putp es p ((lJ mIntA2 nIntA2 a k j).map cA2)) true hw ver)⟩) (fun _ _ => True) () ⟨by simp only [r_okmo hne, r_clean, r_okm4, r_okE0, r_okE1, r_okL0, ↓reduceIte, Nat.reduceEqDiff, reduceCtorEq, memB, keepB, keepOB, Bool.false_eq_true, and_self], by (simp only [kJ_zero, lJ_zero, r_fgt, ↓reduceIte, Nat.reduceEqDiff, reduceCtorEq, memB, keepB, keepOB, Bool.false_eq_true, Int.cast_ofNat_Int]) <;> rfl⟩ trivial ?_
  intro j _ hj _
  simp only [r_cons, r_nil, r_kont, r_seq1, r_seq2, r_blk2, r_fn2, r_sk, r_rg, r_sq, r_bl, r_ex, r_rt, r_cd, r_cd2, r_op1, r_go1, r_mv, r_bi, r_lti, r_ln, r_ln3, r_fin, r_kfe1, r_kcx, r_exps0, r_exps1, r_kex, r_exp1, r_expv2, r_round2, r_lt1, ptd, lk, pt, xv, kv, kc, ↓reduceIte, Nat.reduceEqDiff, reduceCtorEq, Nat.reduceLT, decide_eq_true_eq]
  refine ite_of (fun hlt => ?_) (fun hge => ?_)
  · have hja : j < a.length := by omega
    obtain ⟨R, hjR, hR, hR'⟩ := lJ_row mIntA2 nIntA2 cA2 (k := k) hja
    have hge2 := kJ_le nIntA2 (a := a) (k := k) (j := j + 1)
    rw [kJ_succ nIntA2 hja] at hge2
    have hge3 := kJ_ge nIntA2 (a := a) (k := k) (j := j)
    rw [hR]
    try simp only [nIntA2] at hge2
    simp only [cA2]
    refine wp_count (α := Unit) 2 (fun i _ => ⟨lvl, [(0, .hd id p 0 a.length cap st), (1, iI (kJ nIntA2 a k j + i)), (5, iI j), (6, iI i)], [], sset S id (.ar kk (putp es p (R.set j [if 0 < i then tv (kJ nIntA2 a k j) else tv a[j].1, if 1 < i then tv (kJ nIntA2 a k j + 1) else tv a[j].2])) true hw ver)⟩) (fun _ _ => True) () ⟨by simp only [r_okmo hne, r_clean, r_okm4, r_okE0, r_okE1, r_okL0, ↓reduceIte, Nat.reduceEqDiff, reduceCtorEq, memB, keepB, keepOB, Bool.false_eq_true, and_self], by simp only [Int.add_zero, Nat.lt_irrefl, Nat.not_lt_zero, r_fgt, ↓reduceIte, Nat.reduceEqDiff, reduceCtorEq, memB, keepB, keepOB, Bool.false_eq_true, Int.cast_ofNat_Int]; try rfl⟩ trivial ?_
    intro i _ hi _
    have hc : i = 0 ∨ i = 1 ∨ i = 2 := by omega
    rcases hc with rfl | rfl | rfl
    · simp only [r_packo hne, r_setObo hne, psset_sset, r_sset, hst, hgp, rset_get hjR, setp_row hv hjR, Nat.zero_add, hja, r_okmo hne, Int.cast_ofNat_Int, Nat.mul_one, Int.add_zero, Int.reduceAdd, Nat.lt_irrefl, Nat.not_lt_zero, Nat.reduceAdd, r_cons, r_nil, r_kont, r_seq1, r_blk1, r_sk, r_rg, r_sq, r_bl, r_cd, r_cd2, r_op1, r_go1, r_mv, r_bi, r_add0, r_lti, r_op3, r_ixn, r_ia, r_rde, r_rd3, r_iah, r_iah2, r_ia3, r_ja, r_ja3, r_sset, r_fgt, r_clean, r_okm4, r_okE0, r_okE1, r_okL0, r_round1, r_st, r_st2, r_kst, r_stcs0, r_stcs1, r_sc1, r_sc3, r_sc4, r_sc2, r_lt1, ptd, lk, pt, xv, kv, kc, ↓reduceIte, Nat.reduceEqDiff, reduceCtorEq, List.length_cons, List.length_nil, Nat.reduceAdd, Nat.reduceSub, Nat.reduceLT, true_and, decide_true, List.getElem?_cons_zero, isSc, memB, keepB, keepOB, Bool.false_eq_true, Int.toNat_natCast, Int.toNat_zero, Int.reduceLE, Int.reduceLT, isCell, cellsOf, Nat.zero_add, Nat.add_zero, List.set_cons_zero, Int.natCast_nonneg, and_self, Int.cast_ofNat_Int]
      refine ⟨by rw [fits_i64]; omega, by rw [fits_i64]; omega, cntJ_intro (N := 2) (k := 0) () (by omega) ?_ trivial⟩
      rw [show kJ nIntA2 a k j + 1 = kJ nIntA2 a k j + ((1 : Nat) : Int) from by omega]
      rfl
    · simp only [r_packo hne, r_setObo hne, psset_sset, r_sset, hst, hgp, rset_get hjR, setp_row hv hjR, Nat.zero_add, hja, r_okmo hne, Int.cast_ofNat_Int, Nat.mul_one, Int.reduceAdd, Nat.lt_irrefl, Nat.not_lt_zero, Nat.reduceAdd, r_cons, r_nil, r_kont, r_seq1, r_blk1, r_sk, r_rg, r_sq, r_bl, r_cd, r_cd2, r_op1, r_go1, r_mv, r_bi, r_add0, r_lti, r_op3, r_ixn, r_ia, r_rde, r_rd3, r_iah, r_iah2, r_ia3, r_ja, r_ja3, r_sset, r_fgt, r_clean, r_okm4, r_okE0, r_okE1, r_okL0, r_round1, r_st, r_st2, r_kst, r_stcs0, r_stcs1, r_sc1, r_sc3, r_sc4, r_sc2, r_lt1, ptd, lk, pt, xv, kv, kc, ↓reduceIte, Nat.reduceEqDiff, reduceCtorEq, List.length_cons, List.length_nil, Nat.reduceAdd, Nat.reduceSub, Nat.reduceLT, true_and, decide_true, List.getElem?_cons_zero, List.getElem?_cons_succ, isSc, memB, keepB, keepOB, Bool.false_eq_true, Int.toNat_natCast, Int.toNat_one, Int.reduceLE, Int.reduceLT, isCell, cellsOf, Nat.zero_add, List.set_cons_zero, List.set_cons_succ, Int.natCast_nonneg, and_self, Int.cast_ofNat_Int]
      refine ⟨by rw [fits_i64]; omega, by rw [fits_i64]; omega, cntJ_intro (N := 2) (k := 1) () (by omega) ?_ trivial⟩
      rw [show kJ nIntA2 a k j + 1 + 1 = kJ nIntA2 a k j + ((2 : Nat) : Int) from by omega]
      rfl
    · simp only [r_okmo hne, Int.cast_ofNat_Int, Nat.not_lt_zero, r_cons, r_nil, r_kont, r_seq1, r_seq2, r_blk1, r_blk2, r_rg, r_sq, r_ex, r_cd, r_cd2, r_op1, r_go1, r_mv, r_bi, r_add0, r_lti, r_fgt, r_clean, r_okm4, r_okE0, r_okE1, r_okL0, r_round1, r_round2, r_lt1, ptd, lk, pt, xv, kv, kc, ↓reduceIte, Nat.reduceEqDiff, reduceCtorEq, Nat.reduceSub, Nat.reduceLT, true_and, decide_false, memB, keepB, keepOB, Bool.false_eq_true, Int.reduceLT, and_self, Int.cast_ofNat_Int]
      refine ⟨by rw [fits_i64]; omega, cntJ_intro () hja ?_ trivial⟩
      rw [kJ_succ nIntA2 hja, hR']
      rfl
  · have : j = a.length := by omega
    subst this
    rw [kJ_all, lJ_all]
    exact ⟨rfl, rfl⟩
def mControl (x : TControl) (k : Int) : TControl := { name := markT (k), ports := k + 1, kind_ := k + 1 + 1 }
def nControl (x : TControl) : Nat := 1 + 1 + 1
theorem mark_ControlS : MarkS Go.Proofs.Tryd.prog fid_laws_markControlS cControl mControl nControl (bdControl 4294967296) := by
  intro a k lvl S id p es r0 kk hw ver st cap hid hv hst h0 hk hl hB
  have hne : id.1 ≠ lvl := by omega
  have hgp : ∀ r, getp (putp es p r) p = some r := fun r => getp_putp hv
  refine sem_of_chk k_laws_markControlS trivial ?_
  simp only [c_laws_markControlS, r_cons, r_nil, r_kont, r_seq1, r_rg, r_sq, r_bl, r_wpF, r_op1, r_mv, ptd, pt, xv, kv, kc, params, ↓reduceIte, Nat.reduceEqDiff, reduceCtorEq, List.length_cons, List.length_nil, Nat.reduceAdd, Nat.reduceLeDiff, Nat.reduceLT, true_and, Nat.zero_add]
  refine wp_count (α := Unit) a.length (fun j _ => ⟨lvl, [(0, .hd id p 0 a.length cap st), (1, iI (kJ nControl a k j)), (5, iI j)], [], sset S id (.ar kk (putp es p ((lJ mControl nControl a k j).map cControl)) true hw ver)⟩) (fun _ _ => True) () ⟨by simp only [r_okmo hne, r_clean, r_okm4, r_okE0, r_okE1, r_okL0, ↓reduceIte, Nat.reduceEqDiff, reduceCtorEq, memB, keepB, keepOB, Bool.false_eq_true, and_self], by (simp only [kJ_zero, lJ_zero, r_fgt, ↓reduceIte, Nat.reduceEqDiff, reduceCtorEq, memB, keepB, keepOB, Bool.false_eq_true, Int.cast_ofNat_Int]) <;> rfl⟩ trivial ?_
  intro j _ hj _
  simp only [r_cons, r_nil, r_kont, r_seq1, r_seq2, r_blk2, r_fn2, r_sk, r_rg, r_sq, r_bl, r_ex, r_rt, r_cd, r_cd2, r_op1, r_go1, r_mv, r_bi, r_lti, r_ln, r_ln3, r_kcn, r_sn0, r_sn1, r_ca, r_ca1, r_fin, r_kfe1, r_kcx, r_exps0, r_exps1, r_kex, r_exp1, r_expv2, r_round2, r_lt1, ptd, lk, pt, xv, ↓reduceIte, Nat.reduceEqDiff, reduceCtorEq, Nat.reduceLT, decide_eq_true_eq, List.map_cons, List.map_nil, List.cons_append, List.nil_append, mens, men, and_self]
  refine ite_of (fun hlt => ?_) (fun hge => ?_)
  · have hja : j < a.length := by omega
    obtain ⟨R, hjR, hR, hR'⟩ := lJ_row mControl nControl cControl (k := k) hja
    have hge2 := kJ_le nControl (a := a) (k := k) (j := j + 1)
    rw [kJ_succ nControl hja] at hge2
    have hge3 := kJ_ge nControl (a := a) (k := k) (j := j)
    rw [hR]
    try simp only [nControl] at hge2
    have hb := hB _ (List.getElem_mem hja)
    have b0 : (a[j]).name.size ≤ 4294967296 := hb
    try simp only [cControl]
    refine kca_intro (sem_markText (kJ nControl a k j) (by omega)) ?_
    simp only [r_packo hne, r_setObo hne, psset_sset, r_sset, hst, hgp, rset_get hjR, setp_row hv hjR, Nat.zero_add, hja, r_okmo hne, r_cons, r_nil, r_kont, r_seq1, r_blk1, r_rg, r_sq, r_op1, r_go1, r_mv, r_bi, r_add0, r_op3, r_fa, r_fa3, r_ixn, r_ia, r_rde, r_rd3, r_iah, r_iah2, r_ia3, r_sset, r_fgt, r_clean, r_okm4, r_okE0, r_okE1, r_okL0, r_round1, r_st, r_st2, r_kst, r_stcs0, r_stcs1, r_sc1, r_sc3, r_sc4, r_sc2, r_lt1, ptd, keyOf, freshK, lk, pt, addO, xv, kv, kc, ↓reduceIte, Nat.reduceEqDiff, Nat.reduceMul, reduceCtorEq, List.length_cons, List.length_nil, Nat.reduceAdd, Nat.reduceLT, true_and, List.getElem?_cons_zero, List.getElem?_cons_succ, noSh, isSc, impv, memB, keepB, keepOB, or_true, Bool.false_eq_true, Int.toNat_natCast, isCell, cellsOf, Nat.zero_add, Nat.add_zero, List.set_cons_zero, List.set_cons_succ, Int.natCast_nonneg, and_self]
    refine ⟨by rw [fits_i64]; omega, ⟨by rw [fits_i64]; omega, ⟨by rw [fits_i64]; omega, ⟨by rw [fits_i64]; omega, cntJ_intro () hja ?_ trivial⟩⟩⟩⟩
    rw [kJ_succ nControl hja, hR']
    simp only [nControl, mControl, cControl, Int.natCast_add, Int.natCast_one, Int.add_assoc]
    try rfl
  · have : j = a.length := by omega
    subst this
    rw [kJ_all, lJ_all]
    exact ⟨rfl, rfl⟩
end Go.Fd

/-
  The annotated codes of the functions, printed by a program of mine (gen.py), and the check that they belong to the program.
-/
namespace Go.Fd
def c_laws_toControlS : F2 :=
  { nt := 23, res := [.t 2 [4]], body :=
   (.sq (.rg none [⟨some 2, none, .mv (.k (.slice none 0 0)) none⟩])
   (.sq (.rg none [⟨some 5, none, .mv (.t 0) none⟩,
      ⟨some 6, none, .ln (.t 5)⟩,
      ⟨some 7, none, .ms 3 [.string ⟨#[]⟩, .int .i64 0, .int .i64 0] (.t 6)⟩,
      ⟨some 3, none, .mv (.t 7) none⟩])
   (.sq (.sq (.rg none [⟨some 4, none, .mv (.k (.int .i64 0)) none⟩])
    (.bl 0 (.lp [0, 3, 4] [224] (.sq (.sq (.rg none [⟨some 8, none, .mv (.t 4) none⟩,
          ⟨some 9, none, .mv (.t 0) none⟩,
          ⟨some 10, none, .ln (.t 9)⟩,
          ⟨some 11, none, .bi .lss 0 (.t 8) (.t 10)⟩])
       (.cd (.t 11) (.sk)
       (.ex 0)))
      (.sq (.bl 1 (.rg none [⟨some 14, none, .mv (.t 3) none⟩,
          ⟨some 15, none, .mv (.t 4) none⟩,
          ⟨some 16, none, .mv (.t 0) none⟩,
          ⟨some 17, none, .mv (.t 4) none⟩,
          ⟨some 18, none, .ia 3 (.t 16) (.t 17)⟩,
          ⟨some 19, none, .ld (some 3) (.t 18)⟩,
          ⟨some 20, none, .ca .pure true (.f fid_laws_toControl) [.t 19]⟩,
          ⟨some 21, none, .ia 3 (.t 14) (.t 15)⟩,
          ⟨none, none, .st 3 (.t 21) (.t 20)⟩]))
      (.rg none [⟨some 12, none, .mv (.t 4) none⟩,
        ⟨some 13, none, .bi .add 0 (.t 12) (.k (.int .i64 1))⟩,
        ⟨some 4, none, .mv (.t 13) none⟩]))))))
   (.sq (.rg none [⟨some 22, none, .mv (.t 3) none⟩,
      ⟨some 2, none, .mv (.t 22) none⟩])
   (.rt))))) }
theorem k_laws_toControlS : chkF Go.Proofs.Tryd.prog fid_laws_toControlS c_laws_toControlS = true := by kernel_rfl

def c_laws_eqSorting : F2 :=
  { nt := 35, res := [.t 4 [0]], body :=
   (.sq (.rg none [⟨some 2, none, .bt (.t 0)⟩,
      ⟨some 3, none, .bt (.t 1)⟩,
      ⟨some 4, none, .mv (.k (.bool false)) none⟩])
   (.sq (.sq (.rg none [⟨some 5, none, .fa 0 (.t 2)⟩,
       ⟨some 6, none, .ld none (.t 5)⟩,
       ⟨some 7, none, .fa 0 (.t 3)⟩,
       ⟨some 8, none, .ld none (.t 7)⟩,
       ⟨some 9, none, .ca .pure false (.f fid_laws_eqIntS) [.t 6, .t 8]⟩,
       ⟨some 10, none, .nt (.t 9)⟩])
    (.cd (.t 10) (.sq (.rg none [⟨some 4, none, .mv (.k (.bool false)) none⟩])
     (.rt))
    (.sk)))
   (.sq (.sq (.rg none [⟨some 11, none, .fa 1 (.t 2)⟩,
       ⟨some 12, none, .ld none (.t 11)⟩,
       ⟨some 13, none, .fa 1 (.t 3)⟩,
       ⟨some 14, none, .ld none (.t 13)⟩,
       ⟨some 15, none, .ca .pure false (.f fid_laws_eqIntSS) [.t 12, .t 14]⟩,
       ⟨some 16, none, .nt (.t 15)⟩])
    (.cd (.t 16) (.sq (.rg none [⟨some 4, none, .mv (.k (.bool false)) none⟩])
     (.rt))
    (.sk)))
   (.sq (.sq (.rg none [⟨some 17, none, .fa 2 (.t 2)⟩,
       ⟨some 18, none, .ld none (.t 17)⟩,
       ⟨some 19, none, .fa 2 (.t 3)⟩,
       ⟨some 20, none, .ld none (.t 19)⟩,
       ⟨some 21, none, .ca .pure false (.f fid_laws_eqIntSS) [.t 18, .t 20]⟩,
       ⟨some 22, none, .nt (.t 21)⟩])
    (.cd (.t 22) (.sq (.rg none [⟨some 4, none, .mv (.k (.bool false)) none⟩])
     (.rt))
    (.sk)))
   (.sq (.sq (.rg none [⟨some 23, none, .fa 3 (.t 2)⟩,
       ⟨some 24, none, .ld none (.t 23)⟩,
       ⟨some 25, none, .fa 3 (.t 3)⟩,
       ⟨some 26, none, .ld none (.t 25)⟩,
       ⟨some 27, none, .ca .pure false (.f fid_laws_eqIntS) [.t 24, .t 26]⟩,
       ⟨some 28, none, .nt (.t 27)⟩])
    (.cd (.t 28) (.sq (.rg none [⟨some 4, none, .mv (.k (.bool false)) none⟩])
     (.rt))
    (.sk)))
   (.sq (.sq (.rg none [⟨some 29, none, .fa 4 (.t 2)⟩,
       ⟨some 30, none, .ld none (.t 29)⟩,
       ⟨some 31, none, .fa 4 (.t 3)⟩,
       ⟨some 32, none, .ld none (.t 31)⟩,
       ⟨some 33, none, .ca .pure false (.f fid_laws_eqIntA2S) [.t 30, .t 32]⟩,
       ⟨some 34, none, .nt (.t 33)⟩])
    (.cd (.t 34) (.sq (.rg none [⟨some 4, none, .mv (.k (.bool false)) none⟩])
     (.rt))
    (.sk)))
   (.sq (.rg none [⟨some 4, none, .mv (.k (.bool true)) none⟩])
   (.rt)))))))) }
theorem k_laws_eqSorting : chkF Go.Proofs.Tryd.prog fid_laws_eqSorting c_laws_eqSorting = true := by kernel_rfl

def c_laws_szControl : F2 :=
  { nt := 13, res := [.t 4 [0]], body :=
   (.sq (.rg none [⟨some 2, none, .bt (.t 0)⟩,
      ⟨some 4, none, .mv (.k (.int .i64 0)) none⟩])
   (.sq (.rg none [⟨some 5, none, .mv (.t 1) none⟩,
      ⟨some 6, none, .fa 0 (.t 2)⟩,
      ⟨some 7, none, .ld none (.t 6)⟩,
      ⟨some 8, none, .lg (.t 7)⟩,
      ⟨some 9, none, .bi .sub 0 (.t 5) (.t 8)⟩,
      ⟨some 1, none, .mv (.t 9) none⟩])
   (.sq (.sq (.rg none [⟨some 10, none, .mv (.t 1) none⟩,
       ⟨some 11, none, .bi .lss 0 (.t 10) (.k (.int .i64 0))⟩])
    (.cd (.t 11) (.sq (.rg none [⟨some 4, none, .mv (.k (.int .i64 (-1))) none⟩])
     (.rt))
    (.sk)))
   (.sq (.rg none [⟨some 12, none, .mv (.t 1) none⟩,
      ⟨some 4, none, .mv (.t 12) none⟩])
   (.rt))))) }
theorem k_laws_szControl : chkF Go.Proofs.Tryd.prog fid_laws_szControl c_laws_szControl = true := by kernel_rfl

def c_laws_toControl : F2 :=
  { nt := 14, res := [.c 2 (some 3) [0, 0, 0]], body :=
   (.sq (.rg none [⟨some 1, none, .bt (.t 0)⟩,
      ⟨some 2, none, .al [.string ⟨#[]⟩, .int .i64 0, .int .i64 0] []⟩])
   (.sq (.rg none [⟨some 3, none, .al [.string ⟨#[]⟩, .int .i64 0, .int .i64 0] []⟩])
   (.sq (.rg none [⟨some 4, none, .fa 0 (.t 1)⟩,
      ⟨some 5, none, .ld none (.t 4)⟩,
      ⟨some 6, none, .fa 0 (.t 3)⟩,
      ⟨none, none, .st 1 (.t 6) (.t 5)⟩])
   (.sq (.rg none [⟨some 7, none, .fa 1 (.t 1)⟩,
      ⟨some 8, none, .ld none (.t 7)⟩,
      ⟨some 9, none, .fa 1 (.t 3)⟩,
      ⟨none, none, .st 1 (.t 9) (.t 8)⟩])
   (.sq (.rg none [⟨some 10, none, .fa 2 (.t 1)⟩,
      ⟨some 11, none, .ld none (.t 10)⟩,
      ⟨some 12, none, .fa 2 (.t 3)⟩,
      ⟨none, none, .st 1 (.t 12) (.t 11)⟩])
   (.sq (.rg none [⟨some 13, none, .ld (some 3) (.t 3)⟩,
      ⟨none, none, .st 3 (.t 2) (.t 13)⟩])
   (.rt))))))) }
theorem k_laws_toControl : chkF Go.Proofs.Tryd.prog fid_laws_toControl c_laws_toControl = true := by kernel_rfl

def c_laws_eqControl : F2 :=
  { nt := 20, res := [.t 4 [0]], body :=
   (.sq (.rg none [⟨some 2, none, .bt (.t 0)⟩,
      ⟨some 3, none, .bt (.t 1)⟩,
      ⟨some 4, none, .mv (.k (.bool false)) none⟩])
   (.sq (.sq (.rg none [⟨some 5, none, .fa 0 (.t 2)⟩,
       ⟨some 6, none, .ld none (.t 5)⟩,
       ⟨some 7, none, .fa 0 (.t 3)⟩,
       ⟨some 8, none, .ld none (.t 7)⟩,
       ⟨some 9, none, .bi .neq 0 (.t 6) (.t 8)⟩])
    (.cd (.t 9) (.sq (.rg none [⟨some 4, none, .mv (.k (.bool false)) none⟩])
     (.rt))
    (.sk)))
   (.sq (.sq (.rg none [⟨some 10, none, .fa 1 (.t 2)⟩,
       ⟨some 11, none, .ld none (.t 10)⟩,
       ⟨some 12, none, .fa 1 (.t 3)⟩,
       ⟨some 13, none, .ld none (.t 12)⟩,
       ⟨some 14, none, .bi .neq 0 (.t 11) (.t 13)⟩])
    (.cd (.t 14) (.sq (.rg none [⟨some 4, none, .mv (.k (.bool false)) none⟩])
     (.rt))
    (.sk)))
   (.sq (.sq (.rg none [⟨some 15, none, .fa 2 (.t 2)⟩,
       ⟨some 16, none, .ld none (.t 15)⟩,
       ⟨some 17, none, .fa 2 (.t 3)⟩,
       ⟨some 18, none, .ld none (.t 17)⟩,
       ⟨some 19, none, .bi .neq 0 (.t 16) (.t 18)⟩])
    (.cd (.t 19) (.sq (.rg none [⟨some 4, none, .mv (.k (.bool false)) none⟩])
     (.rt))
    (.sk)))
   (.sq (.rg none [⟨some 4, none, .mv (.k (.bool true)) none⟩])
   (.rt)))))) }
theorem k_laws_eqControl : chkF Go.Proofs.Tryd.prog fid_laws_eqControl c_laws_eqControl = true := by kernel_rfl

def c_laws_eqIntA2 : F2 :=
  { nt := 17, res := [.t 4 [0]], body :=
   (.sq (.rg none [⟨some 2, none, .bt (.t 0)⟩,
      ⟨some 3, none, .bt (.t 1)⟩,
      ⟨some 4, none, .mv (.k (.bool false)) none⟩])
   (.sq (.sq (.rg none [⟨some 5, none, .mv (.k (.int .i64 0)) none⟩])
    (.bl 0 (.lp [2, 3, 5] [] (.sq (.sq (.rg none [⟨some 6, none, .mv (.t 5) none⟩,
          ⟨some 7, none, .bi .lss 0 (.t 6) (.k (.int .i64 2))⟩])
       (.cd (.t 7) (.sk)
       (.ex 0)))
      (.sq (.bl 1 (.sq (.rg (some 0) [⟨some 10, none, .mv (.t 5) none⟩,
           ⟨some 11, none, .ja 1 2 (.t 2) (.t 10)⟩,
           ⟨some 12, none, .ld none (.t 11)⟩,
           ⟨some 13, none, .mv (.t 5) none⟩,
           ⟨some 14, none, .ja 1 2 (.t 3) (.t 13)⟩,
           ⟨some 15, none, .ld none (.t 14)⟩,
           ⟨some 16, none, .bi .neq 0 (.t 12) (.t 15)⟩])
        (.cd (.t 16) (.sq (.rg none [⟨some 4, none, .mv (.k (.bool false)) none⟩])
         (.rt))
        (.sk))))
      (.rg none [⟨some 8, none, .mv (.t 5) none⟩,
        ⟨some 9, none, .bi .add 0 (.t 8) (.k (.int .i64 1))⟩,
        ⟨some 5, none, .mv (.t 9) none⟩]))))))
   (.sq (.rg none [⟨some 4, none, .mv (.k (.bool true)) none⟩])
   (.rt)))) }
theorem k_laws_eqIntA2 : chkF Go.Proofs.Tryd.prog fid_laws_eqIntA2 c_laws_eqIntA2 = true := by kernel_rfl

end Go.Fd

/-
  SMALL WORDS FOR MARKS. Own work.
-/
namespace Go.Fd
theorem sset_ne {S : Sto} {id i : Oid} {ob : Ob} (h : i ≠ id) : sset S id ob i = S i := if_neg h
theorem mL_get {α : Type} {m : α → Int → α} {n : α → Nat} : ∀ {a : List α} {k : Int} {j : Nat} (h : j < a.length), (mL m n a k)[j]? = some (m a[j] (kJ n a k j))
  | [], _, _, h => by cases h
  | x :: r, k, 0, _ => by simp [mL, kJ, nL]
  | x :: r, k, j + 1, h => by
    simp only [mL, List.getElem?_cons_succ, List.getElem_cons_succ]
    rw [mL_get (by simpa using h)]
    simp only [kJ, List.take_succ_cons, nL]
    congr 2
    omega
theorem mL_row {α : Type} {c : α → List Tr} {m : α → Int → α} {n : α → Nat} {a : List α} {k : Int} {j : Nat} (h : j < a.length) : ((mL m n a k).map c)[j]? = some (c (m a[j] (kJ n a k j))) := by
  rw [List.getElem?_map, mL_get h]; rfl
theorem cut_mL {α : Type} {c : α → List Tr} {m : α → Int → α} {n : α → Nat} {a : List α} {k : Int} : cut ((mL m n a k).map c) 0 a.length = (mL m n a k).map c := by
  simp only [cut, List.drop_zero]
  exact List.take_of_length_le (by rw [List.length_map, mL_length]; exact Nat.le_refl _)
theorem cut_map {α : Type} {c : α → List Tr} {a : List α} : cut (a.map c) 0 a.length = a.map c := by
  simp only [cut, List.drop_zero]
  exact List.take_of_length_le (by rw [List.length_map]; exact Nat.le_refl _)
end Go.Fd
