/- Part 3 of the proof. -/
import Derived.Test.YtfkaepjlmgolhaaGreatDoorM2

/- The evaluator: types told by a table; what an operation answers; its soundness for the plain operations. Nothing here speaks of the program. -/
namespace Go.Proofs.YtfkaepjlmgolhaaGreatDoor
open Go.RowKit

/-- What the evaluator knows of a type: integers; Booleans; strings; slices (the cells of an element); structs (their cells, zeros, places of the fields); other types of one cell with their zero. -/
inductive TI where
  | int (k : IntKind)
  | bool
  | str
  | sl (e : TypeId) (sz : Nat)
  | st (n : Nat) (zs : List Value) (places : List (Nat × Nat))
  | one (z : Value)
  | fl (ts : List (TypeId × Nat))
def kN : IntKind → Nat
  | .i8 => 0 | .i16 => 1 | .i32 => 2 | .i64 => 3 | .u8 => 4 | .u16 => 5 | .u32 => 6 | .u64 => 7
def kEq (a b : IntKind) : Bool := Nat.beq (kN a) (kN b)
theorem kEq_eq {a b : IntKind} (h : kEq a b = true) : a = b := by cases a <;> cases b <;> first | rfl | (exact absurd h (by decide))
def zEq : Value → Value → Bool
  | .bool a, .bool b => (a && b) || (!a && !b)
  | .int k n, .int k' m => kEq k k' && decide (n = m)
  | .string s, .string t => Nat.beq s.size 0 && Nat.beq t.size 0
  | .slice none 0 0, .slice none 0 0 => true
  | .pointer none, .pointer none => true
  | .map none, .map none => true
  | .nilFunc, .nilFunc => true
  | .nilIface, .nilIface => true
  | _, _ => false
theorem size_zero {s : ByteArray} (h : s.size = 0) : s = ByteArray.empty := by
  apply ByteArray.ext
  exact Array.eq_empty_of_size_eq_zero h
theorem zEq_eq {a b : Value} (h : zEq a b = true) : a = b := by
  unfold zEq at h
  split at h
  · rename_i a b; cases a <;> cases b <;> first | rfl | simp at h
  · simp only [Bool.and_eq_true, decide_eq_true_eq] at h; rw [kEq_eq h.1, h.2]
  · simp only [Bool.and_eq_true] at h; rw [size_zero (Nat.eq_of_beq_eq_true h.1), size_zero (Nat.eq_of_beq_eq_true h.2)]
  all_goals first | rfl | simp at h
theorem zEq_one {a b : Value} (h : zEq a b = true) : b.oneCell' = true := by
  unfold zEq at h
  split at h <;> first | rfl | simp at h
def zEqs : List Value → List Value → Bool
  | [], [] => true
  | a :: l, b :: r => zEq a b && zEqs l r
  | _, _ => false
theorem zEqs_eq : ∀ {l r : List Value}, zEqs l r = true → l = r ∧ ∀ v ∈ r, v.oneCell' = true
  | [], [], _ => ⟨rfl, fun _ h => by cases h⟩
  | a :: l, b :: r, h => by
    unfold zEqs at h
    simp only [Bool.and_eq_true] at h
    obtain ⟨h1, h2⟩ := zEqs_eq h.2
    refine ⟨by rw [zEq_eq h.1, h1], fun v hv => ?_⟩
    rcases List.mem_cons.1 hv with rfl | hv
    · exact zEq_one h.1
    · exact h2 v hv
  | [], _ :: _, h => by simp [zEqs] at h
  | _ :: _, [], h => by simp [zEqs] at h
def plEq : List (Nat × Nat) → List (Nat × Nat) → Bool
  | [], [] => true
  | a :: l, b :: r => Nat.beq a.1 b.1 && Nat.beq a.2 b.2 && Nat.blt 0 b.2 && plEq l r
  | _, _ => false
theorem plEq_eq : ∀ {l r : List (Nat × Nat)}, plEq l r = true → l = r ∧ ∀ x ∈ r, 0 < x.2
  | [], [], _ => ⟨rfl, fun _ h => by cases h⟩
  | a :: l, b :: r, h => by
    unfold plEq at h
    simp only [Bool.and_eq_true] at h
    obtain ⟨⟨⟨h1, h2⟩, h3⟩, h4⟩ := h
    obtain ⟨e1, e2⟩ := plEq_eq h4
    have e : a = b := Prod.ext (Nat.eq_of_beq_eq_true h1) (Nat.eq_of_beq_eq_true h2)
    refine ⟨by rw [e, e1], fun x hx => ?_⟩
    rcases List.mem_cons.1 hx with rfl | hx
    · exact Nat.le_of_ble_eq_true h3
    · exact e2 x hx
  | [], _ :: _, h => by simp [plEq] at h
  | _ :: _, [], h => by simp [plEq] at h
def oneZ (i : TypeInfo) (z : Value) : Bool := Nat.beq i.size 1 && match i.zero with | some y => zEq y z | none => false
def pls (P : Program) : List Field → Option (List (Nat × Nat))
  | [] => some []
  | f :: l => match P.info? f.type, pls P l with
    | some i, some r => some ((f.offset, i.size) :: r)
    | _, _ => none
theorem pls_mapM {P : Program} : ∀ {l : List Field} {r : List (Nat × Nat)}, pls P l = some r → l.mapM (fun f => (P.info? f.type).map fun i => (f.offset, i.size)) = some r
  | [], r, h => by cases h; rfl
  | f :: l, r, h => by
    unfold pls at h
    cases hi : P.info? f.type with
    | none => rw [hi] at h; simp at h
    | some i =>
      rw [hi] at h
      cases hp : pls P l with
      | none => rw [hp] at h; simp at h
      | some q =>
        rw [hp] at h
        simp at h
        subst h
        have := pls_mapM hp
        simp [List.mapM_cons, hi, this]
theorem pls_get {P : Program} : ∀ {l : List Field} {r : List (Nat × Nat)}, pls P l = some r → ∀ {i : Nat} {x : Nat × Nat}, r[i]? = some x → ∃ f, l[i]? = some f ∧ f.offset = x.1 ∧ (P.info? f.type).map (·.size) = some x.2
  | [], r, h, i, x, hx => by cases h; simp at hx
  | f :: l, r, h, i, x, hx => by
    unfold pls at h
    cases hi : P.info? f.type with
    | none => rw [hi] at h; simp at h
    | some ti =>
      rw [hi] at h
      cases hp : pls P l with
      | none => rw [hp] at h; simp at h
      | some q =>
        rw [hp] at h
        simp at h
        subst h
        cases i with
        | zero => simp at hx; subst hx; exact ⟨f, rfl, rfl, by simp [hi]⟩
        | succ i => simpa using pls_get hp (by simpa using hx)
/-- The check of a row of the table. -/
def tiB (P : Program) (t : TypeId) (ti : TI) : Bool :=
  match P.info? t, P.underlying t with
  | some i, some u =>
    match ti, u with
    | .int k, .int k' => kEq k k' && oneZ i (.int k 0)
    | .bool, .bool => oneZ i (.bool false)
    | .str, .string => oneZ i (.string ByteArray.empty)
    | .sl e0 sz, .slice e => oneZ i (.slice none 0 0) && Nat.beq e0 e && (match P.info? e with | some ie => Nat.beq ie.size sz && Nat.blt 0 sz && Nat.blt 0 ie.bytes && Nat.ble ie.bytes 4096 && (match ie.zero with | some z => Nat.beq z.cells.size sz | none => false) | none => false)
    | .st n zs places, .struct fs => Nat.beq i.size n && Nat.blt 0 n && (match i.zero with | some z => zEqs z.cells.toList zs | none => false) && (match pls P fs.toList with | some r => plEq r places | none => false)
    | .one z, u => !u.isRow && oneZ i z
    | .fl _, _ => false
    | _, _ => false
  | _, _ => false
/-- The types of a struct's fields and where they lie, told under the number 2000000 + its type. -/
def flB' : List Field → List (TypeId × Nat) → Bool
  | [], [] => true
  | f :: l, x :: r => Nat.beq f.type x.1 && Nat.beq f.offset x.2 && flB' l r
  | _, _ => false
theorem flB'_get : ∀ {l : List Field} {r : List (TypeId × Nat)}, flB' l r = true → ∀ {i : Nat} {x : TypeId × Nat}, r[i]? = some x → ∃ f, l[i]? = some f ∧ f.type = x.1 ∧ f.offset = x.2
  | [], [], _, i, x, hx => by simp at hx
  | f :: l, y :: r, h, i, x, hx => by
    unfold flB' at h
    simp only [Bool.and_eq_true] at h
    obtain ⟨⟨h1, h2⟩, h3⟩ := h
    cases i with
    | zero => simp at hx; subst hx; exact ⟨f, rfl, Nat.eq_of_beq_eq_true h1, Nat.eq_of_beq_eq_true h2⟩
    | succ i => simpa using flB'_get h3 (by simpa using hx)
  | [], _ :: _, h, _, _, _ => by simp [flB'] at h
  | _ :: _, [], h, _, _, _ => by simp [flB'] at h
def flOk (P : Program) (t : Nat) (ts : List (TypeId × Nat)) : Bool := match P.underlying t with
  | some (.struct fs) => flB' fs.toList ts
  | _ => false
def entB (P : Program) (t : Nat) (ti : TI) : Bool := match ti with
  | .fl ts => Nat.blt 2000000 t && flOk P (t - 2000000) ts
  | ti => tiB P t ti
def tabOk (P : Program) : List (Nat × TI) → Bool
  | [] => true
  | x :: l => entB P x.1 x.2 && tabOk P l
theorem tabOk_get' {P : Program} {t : TypeId} {ti : TI} : ∀ {T : List (Nat × TI)}, tabOk P T = true → fnd t T = some ti → entB P t ti = true
  | [], _, h => by cases h
  | x :: l, h, hf => by
    unfold tabOk at h
    simp only [Bool.and_eq_true] at h
    rw [show x = (x.1, x.2) from rfl, fnd_cons] at hf
    by_cases e : x.1 = t
    · subst e; simp at hf; subst hf; exact h.1
    · simp only [e, if_false] at hf; exact tabOk_get' h.2 hf
theorem tabOk_get {P : Program} {t : TypeId} {ti : TI} {T : List (Nat × TI)} (hT : tabOk P T = true) (h : fnd t T = some ti) (hn : ∀ ts, ti ≠ .fl ts := by intro _ h; cases h) : tiB P t ti = true := by
  have := tabOk_get' hT h
  cases ti <;> first | exact this | exact absurd rfl (hn _)
theorem tabFl {P : Program} {t : TypeId} {ts : List (TypeId × Nat)} {T : List (Nat × TI)} (hT : tabOk P T = true) (h : fnd (2000000 + t) T = some (.fl ts)) {i : Nat} {x : TypeId × Nat} (hx : ts[i]? = some x) : PartT P t i x.1 x.2 := by
  have := tabOk_get' hT h
  simp only [entB, Bool.and_eq_true] at this
  have h2 := this.2
  rw [Nat.add_sub_cancel_left] at h2
  unfold flOk at h2
  split at h2
  · rename_i fs hu
    obtain ⟨f, g1, g2, g3⟩ := flB'_get h2 hx
    exact ⟨fs, f, hu, by simpa using g1, g2, g3⟩
  · cases h2
theorem zero_run {P : Program} {t : TypeId} {i : TypeInfo} {z : Value} (hi : P.info? t = some i) (hz : i.zero = some z) (w : World) : (zeroValue t).run P w = .ok z w := by
  simp [zeroValue, typeInfo, hi, hz]
section
variable {P : Program} {t : TypeId}
theorem oneZ_one {i : TypeInfo} {u : TypeDesc} {z : Value} (hi : P.info? t = some i) (hu : P.underlying t = some u) (hr : u.isRow = false) (h : oneZ i z = true) : OneT P t ∧ (∀ w, (zeroValue t).run P w = .ok z w) ∧ z.oneCell' = true := by
  unfold oneZ at h
  simp only [Bool.and_eq_true] at h
  obtain ⟨h1, h2⟩ := h
  cases hz : i.zero with
  | none => rw [hz] at h2; simp at h2
  | some y =>
    rw [hz] at h2
    have e := zEq_eq h2
    subst e
    exact ⟨⟨⟨u, hu, hr⟩, by rw [hi]; simp [Nat.eq_of_beq_eq_true h1]⟩, zero_run hi hz, zEq_one h2⟩
theorem ti_open {ti : TI} (h : tiB P t ti = true) : ∃ i u, P.info? t = some i ∧ P.underlying t = some u := by
  unfold tiB at h
  cases hi : P.info? t with
  | none => rw [hi] at h; simp at h
  | some i =>
    cases hu : P.underlying t with
    | none => rw [hi, hu] at h; simp at h
    | some u => exact ⟨i, u, rfl, rfl⟩
theorem ti_int {k : IntKind} (h : tiB P t (.int k) = true) : OneT P t ∧ P.underlying t = some (.int k) ∧ (∀ w, (zeroValue t).run P w = .ok (.int k 0) w) := by
  obtain ⟨i, u, hi, hu⟩ := ti_open h
  unfold tiB at h
  rw [hi, hu] at h
  cases u <;> simp only [Bool.and_eq_true, Bool.false_eq_true] at h
  rename_i k'
  have e := kEq_eq h.1
  subst e
  obtain ⟨h1, h2, _⟩ := oneZ_one hi hu rfl h.2
  exact ⟨h1, hu, h2⟩
theorem ti_bool (h : tiB P t .bool = true) : OneT P t ∧ P.underlying t = some .bool ∧ (∀ w, (zeroValue t).run P w = .ok (.bool false) w) := by
  obtain ⟨i, u, hi, hu⟩ := ti_open h
  unfold tiB at h
  rw [hi, hu] at h
  cases u <;> simp only [Bool.false_eq_true] at h
  obtain ⟨h1, h2, _⟩ := oneZ_one hi hu rfl h
  exact ⟨h1, hu, h2⟩
theorem ti_str (h : tiB P t .str = true) : OneT P t ∧ P.underlying t = some .string ∧ (∀ w, (zeroValue t).run P w = .ok (.string ByteArray.empty) w) := by
  obtain ⟨i, u, hi, hu⟩ := ti_open h
  unfold tiB at h
  rw [hi, hu] at h
  cases u <;> simp only [Bool.false_eq_true] at h
  obtain ⟨h1, h2, _⟩ := oneZ_one hi hu rfl h
  exact ⟨h1, hu, h2⟩
theorem ti_one {z : Value} (h : tiB P t (.one z) = true) : OneT P t ∧ (∀ w, (zeroValue t).run P w = .ok z w) ∧ z.oneCell' = true := by
  obtain ⟨i, u, hi, hu⟩ := ti_open h
  unfold tiB at h
  rw [hi, hu] at h
  have h' : (!u.isRow && oneZ i z) = true := by cases u <;> exact h
  simp only [Bool.and_eq_true, Bool.not_eq_true'] at h'
  obtain ⟨h1, h2, h3⟩ := oneZ_one hi hu h'.1 h'.2
  exact ⟨h1, h2, h3⟩
theorem ti_sl {e0 : TypeId} {sz : Nat} (h : tiB P t (.sl e0 sz) = true) : OneT P t ∧ (∀ w, (zeroValue t).run P w = .ok (.slice none 0 0) w) ∧ AppT P t e0 sz := by
  obtain ⟨i, u, hi, hu⟩ := ti_open h
  unfold tiB at h
  rw [hi, hu] at h
  cases u <;> simp only [Bool.and_eq_true, Bool.false_eq_true] at h
  rename_i e
  obtain ⟨h1, h2, _⟩ := oneZ_one hi hu rfl h.1.1
  have he := Nat.eq_of_beq_eq_true h.1.2
  subst he
  refine ⟨h1, h2, ?_⟩
  cases hie : P.info? e0 with
  | none => rw [hie] at h; simp at h
  | some ie =>
    rw [hie] at h
    have h := h.2
    simp only [Bool.and_eq_true] at h
    obtain ⟨⟨⟨⟨h3, h4⟩, h5⟩, h6⟩, h7⟩ := h
    cases hz : ie.zero with
    | none => rw [hz] at h7; simp at h7
    | some z =>
      rw [hz] at h7
      exact ⟨ie, z, hu, hie, hz, Nat.eq_of_beq_eq_true h3, Nat.eq_of_beq_eq_true h7, Nat.le_of_ble_eq_true h4, Nat.le_of_ble_eq_true h5, Nat.le_of_ble_eq_true h6⟩
theorem AppT.slT {e : TypeId} {sz : Nat} (h : AppT P t e sz) : SlT P t sz := by
  obtain ⟨ie, z, h1, h2, h3, h4, _⟩ := h.h
  exact ⟨e, h1, by rw [h2]; simp [h4]⟩
theorem AppT.bslT {e : TypeId} {sz : Nat} (h : AppT P t e sz) : BslT P t sz := by
  obtain ⟨ie, z, h1, h2, h3, h4, h5, h6, _⟩ := h.h
  exact ⟨e, ie, z, h1, h2, h3, h4, h5, h6⟩
theorem ti_st {n : Nat} {zs : List Value} {places : List (Nat × Nat)} (h : tiB P t (.st n zs places) = true) : 0 < n ∧ RowT P t n ∧ BldT P t zs places ∧ (∀ (i : Nat) (x : Nat × Nat), places[i]? = some x → FldT P t i x.1) ∧ (∀ v ∈ zs, v.oneCell' = true) ∧
    ∃ z, (∀ w, (zeroValue t).run P w = .ok z w) ∧ z.cells.toList = zs := by
  obtain ⟨i, u, hi, hu⟩ := ti_open h
  unfold tiB at h
  rw [hi, hu] at h
  cases u <;> simp only [Bool.and_eq_true, Bool.false_eq_true] at h
  rename_i fs
  obtain ⟨⟨⟨h1, h0⟩, h2⟩, h3⟩ := h
  cases hz : i.zero with
  | none => rw [hz] at h2; simp at h2
  | some z =>
    rw [hz] at h2
    obtain ⟨e1, e2⟩ := zEqs_eq h2
    cases hp : pls P fs.toList with
    | none => rw [hp] at h3; simp at h3
    | some r =>
      rw [hp] at h3
      obtain ⟨e3, e4⟩ := plEq_eq h3
      subst e3
      refine ⟨Nat.le_of_ble_eq_true h0, ⟨⟨_, hu, rfl⟩, by rw [hi]; simp [Nat.eq_of_beq_eq_true h1]⟩, ⟨i, fs, z, hi, hu, hz, e1, pls_mapM hp⟩, fun j x hx => ?_, e2, z, zero_run hi hz, e1⟩
      obtain ⟨f, g1, g2, g3⟩ := pls_get hp hx
      exact ⟨fs, f, hu, by simpa using g1, g2, x.2, e4 x (List.mem_of_getElem? hx), g3⟩
end
end Go.Proofs.YtfkaepjlmgolhaaGreatDoor
