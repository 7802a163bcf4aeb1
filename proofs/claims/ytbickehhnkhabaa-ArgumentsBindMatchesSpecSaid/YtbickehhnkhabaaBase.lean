/- General facts about slices that read as lists, used by the walks of this claim. Nothing here speaks of the program. -/
import Derived.WalkKit
import Derived.WalkSpells
import Derived.WalkLawsBesides
import Derived.Lib.Hide
namespace Go.Proofs.Ytbickehhnkhabaa
open Go.RowKit

theorem ret_int {k : IntKind} {a b : Int} (h : a = b) : Ending.returned (.int k a) = .returned (.int k b) := by rw [h]
theorem ret_bool {a b : Bool} (h : a = b) : Ending.returned (.bool a) = .returned (.bool b) := by rw [h]
theorem ret_val {a b : Value} (h : a = b) : Ending.returned a = .returned b := by rw [h]

/-- The bounds of an int. -/
def Fits (x : Int) : Prop := -9223372036854775808 ≤ x ∧ x ≤ 9223372036854775807

theorem wf_of_fits {x : Int} (h : Fits x) : (Lit.int .i64 x).wf = true := by
  have h1 : IntKind.i64.min = -9223372036854775808 := by decide
  have h2 : IntKind.i64.max = 9223372036854775807 := by decide
  unfold Fits at h
  simp [Lit.wf, h1, h2]
  omega

/-- All that was there is as it was. -/
theorem ext_trans {w w1 w2 : World} (h1 : Below w.heap.size w w1) (h2 : Below w1.heap.size w1 w2) : Below w.heap.size w w2 := h1.trans (h2.mono h1.size)

theorem ext_alloc (w : World) (o : Obj) : Below w.heap.size w (w.alloc o) := (Below.refl _ _).alloc (Nat.le_refl _) o

theorem below_cells {B : Nat} {w w1 : World} (hb : Below B w w1) : (∀ b o, b < B → w1.cell? ⟨b, o, none⟩ = w.cell? ⟨b, o, none⟩) ∧ (∀ b o, b < B → w1.frozen? ⟨b, o, none⟩ = w.frozen? ⟨b, o, none⟩) :=
  ⟨fun b o h => hb.cell (p := ⟨b, o, none⟩) h, fun b o h => hb.frozen (p := ⟨b, o, none⟩) h⟩

/-- A block of two cells as the walk asks of it. -/
theorem box2 {w : World} {N : Nat} {x y : Value} {t : TypeId} (h : w.heap[N]? = some (.cells #[x, y] t (0, 0))) :
    w.cell? ⟨N, 0, none⟩ = some x ∧ w.cell? ⟨N, 1, none⟩ = some y ∧ (∀ o, w.frozen? ⟨N, o, none⟩ = false) ∧ N < w.heap.size := by
  refine ⟨by simp [World.cell?, h], by simp [World.cell?, h], fun o => by simp [World.frozen?, h], ?_⟩
  rcases Nat.lt_or_ge N w.heap.size with h' | h'
  · exact h'
  · rw [Array.getElem?_eq_none h'] at h; cases h
theorem box1 {w : World} {N : Nat} {x : Value} {t : TypeId} (h : w.heap[N]? = some (.cells #[x] t (0, 0))) :
    w.cell? ⟨N, 0, none⟩ = some x ∧ (∀ o, w.frozen? ⟨N, o, none⟩ = false) ∧ N < w.heap.size := by
  refine ⟨by simp [World.cell?, h], fun o => by simp [World.frozen?, h], ?_⟩
  rcases Nat.lt_or_ge N w.heap.size with h' | h'
  · exact h'
  · rw [Array.getElem?_eq_none h'] at h; cases h
theorem box2_set {w : World} {N : Nat} {x y : Value} {t : TypeId} (h : w.heap[N]? = some (.cells #[x, y] t (0, 0))) (a b : Value) :
    ((w.setCell ⟨N, 0, none⟩ a).setCell ⟨N, 1, none⟩ b).heap[N]? = some (.cells #[a, b] t (0, 0)) := by
  simp [World.setCell, Array.getElem?_modify, h]
theorem box_alloc {w : World} {N : Nat} {o : Obj} (h : w.heap[N]? = some o) (o' : Obj) : (w.alloc o').heap[N]? = some o := by
  have hN : N < w.heap.size := by
    rcases Nat.lt_or_ge N w.heap.size with h' | h'
    · exact h'
    · rw [Array.getElem?_eq_none h'] at h; cases h
  rw [Below.heap_alloc w o' N hN]; exact h
theorem heap_new (w : World) (o : Obj) : (w.alloc o).heap[w.heap.size]? = some o := by show (w.heap.push o)[w.heap.size]? = _; simp

/-- A slice value that reads as a list: one cell an element, the cell of x holds f x. -/
def RowOf {α : Type} (f : α → Value) (w : World) (v : Value) (l : List α) : Prop :=
  ∃ a cap, v = .slice a l.length cap ∧ l.length ≤ cap ∧ cap ≤ 9223372036854775807 ∧
    ∀ i (h : i < l.length), ∃ b off, a = some ⟨b, off, none⟩ ∧ w.cell? ⟨b, off + i, none⟩ = some (f l[i])

theorem RowOf.below {α : Type} {f : α → Value} {w w' : World} {v : Value} {l : List α} (h : RowOf f w v l) (hb : Below w.heap.size w w') : RowOf f w' v l := by
  obtain ⟨a, cap, rfl, hl, hm, hc⟩ := h
  refine ⟨a, cap, rfl, hl, hm, fun i hi => ?_⟩
  obtain ⟨b, off, rfl, hcell⟩ := hc i hi
  exact ⟨b, off, rfl, by rw [hb.cell (World.block_lt_of_cell? _ _ hcell)]; exact hcell⟩

theorem RowOf.nil {α : Type} (f : α → Value) (w : World) : RowOf f w (.slice none 0 0) [] := ⟨none, 0, rfl, by simp, by simp, fun i h => absurd h (by simp)⟩

/-- 'x[lo:hi]' of a slice that reads as l: it reads as the middle of l. The equation is for the walk. -/
theorem RowOf.slice {α : Type} {f : α → Value} {w : World} {v : Value} {l : List α} (h : RowOf f w v l) {P : Program} {t e : TypeId} (ht : P.underlying t = some (.slice e)) {i : TypeInfo} (hi : P.info? e = some i) (hs : i.size = 1)
    {lo hi' : Nat} (h1 : lo ≤ hi') (h2 : hi' ≤ l.length) :
    ∃ u, RowOf f w u ((l.take hi').drop lo) ∧ (∀ k, Value.ownBlock u = some k → Value.ownBlock v = some k) ∧ (∀ W, (Instr.slice t v (some (.int .i64 lo)) (some (.int .i64 hi')) none).run P W = .ok u W) ∧
      (hi' = l.length → ∀ W, (Instr.slice t v (some (.int .i64 lo)) none none).run P W = .ok u W) ∧
      (lo = 0 → ∀ W, (Instr.slice t v none (some (.int .i64 hi')) none).run P W = .ok u W) := by
  obtain ⟨a, cap, rfl, hl, hm, hc⟩ := h
  have he : P.elem t = e := by simp [Program.elem, ht]
  have ht' : P.underlying t = some (.slice (P.elem t)) := by rw [he]; exact ht
  have hz : ∀ W, (sizeOf (P.elem t)).run P W = .ok 1 W := by
    intro W; rw [he]; simp [sizeOf, typeInfo, hi, hs]
  refine ⟨sliced a lo hi' cap 1, ?_, ?_, fun W => ?_, fun hh W => ?_, fun hh W => ?_⟩
  · refine ⟨if cap = lo then a else a.map (·.add (lo * 1)), cap - lo, by simp [sliced]; omega, by simp; omega, by omega, fun i hlt => ?_⟩
    simp at hlt
    obtain ⟨b, off, rfl, hcell⟩ := hc (lo + i) (by omega)
    rw [if_neg (by omega)]
    by_cases h0 : lo = 0
    · subst h0
      exact ⟨b, off, by simp [Addr.add], by simpa using hcell⟩
    · exact ⟨b, off + lo, by simp [Addr.add, h0], by simpa [Nat.add_assoc] using hcell⟩
  · intro k hk
    simp only [sliced] at hk
    split at hk
    · cases a with
      | none => simp [Value.ownBlock] at hk
      | some a => simpa [Value.ownBlock] using hk
    · cases a with
      | none => simp [Value.ownBlock] at hk
      | some a => simp only [Option.map_some, Value.ownBlock, Addr.add] at hk ⊢; split at hk <;> simpa using hk
  · rw [run_slice_lh W t a l.length cap ht' _ _ _ _ (by omega) (by omega) (by omega), hz]
    simp [Result.andThen]
  · subst hh
    rw [run_slice_l W t a l.length cap ht' _ _ (by omega) (by omega), hz]
    simp [Result.andThen]
  · subst hh
    rw [run_slice_h W t a l.length cap ht' _ _ (by omega) (by omega), hz]
    simp [Result.andThen]

/-- A row of cells, each with its value. -/
abbrev Row (w : World) (v : Value) (cs : List Value) : Prop := RowOf (fun x => x) w v cs
/-- A slice value that reads as a list of integers. -/
abbrev Ints (w : World) (v : Value) (l : List Int) : Prop := RowOf (Value.int .i64) w v l

/-- A slice value that reads as a list of lists of integers. -/
def IntRows (w : World) (v : Value) (B : List (List Int)) : Prop :=
  ∃ vs : List Value, ∃ hl : vs.length = B.length, Row w v vs ∧ ∀ i (h : i < B.length), Ints w vs[i] B[i]

theorem IntRows.below {w w' : World} {v : Value} {B : List (List Int)} (h : IntRows w v B) (hb : Below w.heap.size w w') : IntRows w' v B := by
  obtain ⟨vs, hl, hr, hi⟩ := h
  exact ⟨vs, hl, hr.below hb, fun i h => (hi i h).below hb⟩

/-- The place of the first x, counted from k; -1 if there is none. -/
def idxFrom (x : Int) : List Int → Nat → Int
  | [], _ => -1
  | y :: l, k => if x == y then k else idxFrom x l (k + 1)

theorem idxFrom_drop (l : List Int) (x : Int) (k : Nat) (h : k < l.length) : idxFrom x (l.drop k) k = if x == l[k] then (k : Int) else idxFrom x (l.drop (k+1)) (k+1) := by
  rw [List.drop_eq_getElem_cons h, idxFrom]

def before (l : List Int) (a b : Int) : Bool := decide (0 ≤ idxFrom a l 0) && decide (idxFrom a l 0 < idxFrom b l 0)

/-- The least i from k on, below n, of which p holds; -1 if there is none. -/
def firstFrom (p : Nat → Bool) (n k : Nat) : Int := if h : k < n then (if p k then k else firstFrom p n (k + 1)) else -1
termination_by n - k

theorem firstFrom_yes {p : Nat → Bool} {n k : Nat} (h : k < n) (hp : p k = true) : firstFrom p n k = k := by
  unfold firstFrom; simp [h, hp]
theorem firstFrom_no {p : Nat → Bool} {n k : Nat} (h : k < n) (hp : p k = false) : firstFrom p n k = firstFrom p n (k + 1) := by
  rw [firstFrom]; simp [h, hp]
theorem firstFrom_end {p : Nat → Bool} {n k : Nat} (h : ¬ k < n) : firstFrom p n k = -1 := by
  unfold firstFrom; simp [h]
end Go.Proofs.Ytbickehhnkhabaa
