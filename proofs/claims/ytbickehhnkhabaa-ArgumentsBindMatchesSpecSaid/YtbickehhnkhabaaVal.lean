/- Values (api.Value: seven cells each) in memory; rows of elements of several cells. -/
import Derived.Test.YtbickehhnkhabaaOwn
import Derived.Test.YtbickehhnkhabaaLin3
namespace Go.Proofs.Ytbickehhnkhabaa
open Go.RowKit

/-- A row of n elements of z cells, its cells one after another. -/
def RowS (z : Nat) (w : World) (v : Value) (n : Nat) (cs : List Value) : Prop :=
  ∃ a cap, v = .slice a n cap ∧ n ≤ cap ∧ (cap ≤ 9223372036854775807 ∧ (a = none → cap = 0)) ∧ cs.length = n * z ∧
    ∀ j (h : j < cs.length), ∃ b off, a = some ⟨b, off, none⟩ ∧ w.cell? ⟨b, off + j, none⟩ = some cs[j]

theorem RowS.below {z : Nat} {w w' : World} {v : Value} {n : Nat} {cs : List Value} (h : RowS z w v n cs) (hb : Below w.heap.size w w') : RowS z w' v n cs := by
  obtain ⟨a, cap, rfl, hl, hm, hn, hc⟩ := h
  refine ⟨a, cap, rfl, hl, hm, hn, fun i hi => ?_⟩
  obtain ⟨b, off, rfl, h1⟩ := hc i hi
  exact ⟨b, off, rfl, by rw [hb.cell (World.block_lt_of_cell? _ _ h1)]; exact h1⟩

theorem RowS.isSlice {z : Nat} {w : World} {v : Value} {n : Nat} {cs : List Value} (h : RowS z w v n cs) : ∃ a c, v = .slice a n c := by
  obtain ⟨a, c, rfl, _⟩ := h; exact ⟨a, c, rfl⟩

theorem RowS.nil (z : Nat) (w : World) : RowS z w (.slice none 0 0) 0 [] := ⟨none, 0, rfl, Nat.le_refl _, ⟨by omega, fun _ => rfl⟩, by simp, fun j h => by simp at h⟩

theorem RowS.of_own {z : Nat} {w : World} {base : Nat} {e : TypeId} {v : Value} {n : Nat} {cs : List Value} (h : w.ownsRow base e z v n cs) : RowS z w v n cs := by
  obtain ⟨hlen, h⟩ := h
  rcases h with ⟨rfl, h0⟩ | ⟨g, cap, cur, rfl, hb, hg, hn, hm, hs, ht⟩
  · subst h0
    have : cs = [] := List.eq_nil_of_length_eq_zero (by simpa using hlen)
    subst this
    exact RowS.nil z w
  · rw [maxLen_eq'] at hm
    refine ⟨some ⟨g, 0, none⟩, cap, rfl, hn, ⟨hm, fun h => by cases h⟩, hlen, fun i hi => ⟨g, 0, rfl, ?_⟩⟩
    have h1 : cur[i]? = some cs[i] := by
      have h2 : (cur.toList.take (n * z))[i]? = cs[i]? := by rw [ht]
      rw [List.getElem?_take, if_pos (by omega)] at h2
      simpa [hi] using h2
    simp [World.cell?, hg, h1]

theorem RowS.grown {z : Nat} {w w' : World} {v : Value} {n : Nat} {cs : List Value} {row : Option Nat} (h : RowS z w v n cs) (hg : w.grownBy w' row) (hne : v.ownBlock ≠ row ∨ row = none) : RowS z w' v n cs := by
  obtain ⟨a, cap, rfl, hl, hm, hn, hc⟩ := h
  refine ⟨a, cap, rfl, hl, hm, hn, fun i hi => ?_⟩
  obtain ⟨b, off, rfl, hcell⟩ := hc i hi
  refine ⟨b, off, rfl, hg.cell hcell ?_⟩
  rcases hne with h | h
  · simpa [Value.ownBlock] using h
  · rw [h]; simp

theorem add_plain (b off i : Nat) : (⟨b, off, none⟩ : Addr).add i = ⟨b, off + i, none⟩ := by
  unfold Addr.add; split <;> simp_all

/-- What an append's source wants: the cells from the slice's address on. -/
theorem RowS.src {z : Nat} {w : World} {ad : Addr} {n cap : Nat} {cs : List Value} (h : RowS z w (.slice (some ad) n cap) n cs) :
    ∀ j u, cs[j]? = some u → w.cell? (ad.add j) = some u := by
  obtain ⟨a, cap', he, _, _, _, hc⟩ := h
  simp only [Value.slice.injEq, true_and] at he
  obtain ⟨rfl, rfl⟩ := he
  intro j u hj
  have hlt : j < cs.length := by
    rcases Nat.lt_or_ge j cs.length with h | h
    · exact h
    · rw [List.getElem?_eq_none h] at hj; cases hj
  obtain ⟨b, off, h', hcell⟩ := hc j hlt
  simp only [Option.some.injEq] at h'
  subst h'
  rw [List.getElem?_eq_getElem hlt, Option.some.injEq] at hj
  subst hj
  rw [add_plain]; exact hcell

/-- The part from i to j of a row: what the slicing gives. -/
theorem RowS.sub {z : Nat} {w : World} {v : Value} {n : Nat} {cs : List Value} {P : Program} {t e : TypeId} (h : RowS z w v n cs) (ht : P.underlying t = some (.slice e)) (hsz : ∀ W, (sizeOf e).run P W = .ok z W) {i j : Nat} (hij : i ≤ j) (hj : j ≤ n) :
    ∃ u, RowS z w u (j - i) ((cs.drop (i * z)).take ((j - i) * z)) ∧ (i = 0 → ∀ W, (Instr.slice t v none (some (.int .i64 j)) none).run P W = .ok u W) ∧
      (j = n → ∀ W, (Instr.slice t v (some (.int .i64 i)) none none).run P W = .ok u W) ∧ (∀ b, v.ownBlock = some b → u.ownBlock = some b) ∧ (v.ownBlock = none → u.ownBlock = none) := by
  obtain ⟨a, cap, rfl, hl, hm, hn, hc⟩ := h
  have he : P.elem t = e := by simp [Program.elem, ht]
  have ht' : P.underlying t = some (.slice (P.elem t)) := by rw [he]; exact ht
  have hz : ∀ W, (sizeOf (P.elem t)).run P W = .ok z W := by intro W; rw [he]; exact hsz W
  refine ⟨sliced a i j cap z, ?_, ?_, ?_, ?_, ?_⟩
  · have hmul : (j - i) * z = j * z - i * z := Nat.sub_mul j i z
    have hle : j * z ≤ n * z := Nat.mul_le_mul_right z hj
    refine ⟨if cap = i then a else a.map (·.add (i * z)), cap - i, by unfold sliced; rfl, by omega, ⟨by omega, fun h => by
      have : a = none := by split at h <;> simp_all
      have := hm.2 this; omega⟩, by simp; omega, fun q hq => ?_⟩
    have hq' : q < (j - i) * z ∧ i * z + q < cs.length := by
      simp at hq; omega
    obtain ⟨b, off, rfl, h1⟩ := hc (i * z + q) hq'.2
    have hji : 0 < j - i := by
      rcases Nat.eq_zero_or_pos (j - i) with h0 | h0
      · rw [h0, Nat.zero_mul] at hq'; omega
      · exact h0
    refine ⟨b, off + i * z, ?_, ?_⟩
    · rw [if_neg (by omega), Option.map_some, add_plain]
    · simp only [List.getElem_take, List.getElem_drop]
      rw [show off + i * z + q = off + (i * z + q) by omega]; exact h1
  · rintro rfl W
    rw [run_slice_h W t a n cap ht' _ _ (by omega) (by omega), hz]
    simp [Result.andThen]
  · rintro rfl W
    rw [run_slice_l W t _ j cap ht' _ _ (by omega) (by omega), hz]
    simp [Result.andThen]
  · intro b hb
    cases a with
    | none => simp [Value.ownBlock] at hb
    | some ad =>
      simp only [Value.ownBlock, Option.some.injEq] at hb
      unfold sliced
      by_cases h0 : cap = i
      · rw [if_pos h0]; simp [Value.ownBlock, hb]
      · rw [if_neg h0, Option.map_some]
        simp only [Value.ownBlock, Option.some.injEq]
        unfold Addr.add
        split <;> simp [hb]
  · intro hb
    unfold sliced
    cases a with
    | none => simp [Value.ownBlock]
    | some ad => simp [Value.ownBlock] at hb

/-- A value as it lies in memory. -/
structure Val where
  k : Int
  n : Bool
  na : Option Addr
  nl : Nat
  nc : Nat
  d : Bool
  da : Option Addr
  dl : Nat
  dc : Nat
  s : ByteArray
  r : Int

def valC (v : Val) : List Value := [.int .i64 v.k, .bool v.n, .slice v.na v.nl v.nc, .bool v.d, .slice v.da v.dl v.dc, .string v.s, .int .i64 v.r]
def valA (v : Val) : Value := .agg #[.int .i64 v.k, .bool v.n, .slice v.na v.nl v.nc, .bool v.d, .slice v.da v.dl v.dc, .string v.s, .int .i64 v.r]
def unbV : Val := ⟨9, false, none, 0, 0, false, none, 0, 0, ⟨#[]⟩, 0⟩
def isUV (v : Val) : Bool := v.k == 9

theorem valC_length (v : Val) : (valC v).length = 7 := rfl
theorem flat_length7 (l : List Val) : (l.flatMap valC).length = l.length * 7 := by
  induction l with
  | nil => rfl
  | cons v l ih => rw [List.flatMap_cons, List.length_append, ih, valC_length, List.length_cons]; omega
theorem flat_at : ∀ (l : List Val) (i j : Nat) (h : i < l.length), j < 7 → (l.flatMap valC)[i * 7 + j]? = (valC l[i])[j]? := by
  intro l
  induction l with
  | nil => intro i j h; simp at h
  | cons v l ih =>
    intro i j h hj
    rw [List.flatMap_cons]
    cases i with
    | zero => rw [List.getElem?_append_left (by rw [valC_length]; omega)]; simp
    | succ i =>
      rw [List.getElem?_append_right (by rw [valC_length]; omega), valC_length, show (i + 1) * 7 + j - 7 = i * 7 + j by omega, ih i j (by simpa using h) hj]
      rfl
theorem flat_drop (l : List Val) (i : Nat) : (l.flatMap valC).drop (i * 7) = (l.drop i).flatMap valC := by
  induction i generalizing l with
  | zero => simp
  | succ i ih =>
    cases l with
    | nil => simp
    | cons v l => rw [List.flatMap_cons, show (i + 1) * 7 = 7 + i * 7 by omega, ← List.drop_drop, show (7 : Nat) = (valC v).length from rfl, List.drop_left, List.drop_succ_cons, valC_length, ih]
theorem flat_take (l : List Val) (i : Nat) : (l.flatMap valC).take (i * 7) = (l.take i).flatMap valC := by
  induction i generalizing l with
  | zero => simp
  | succ i ih =>
    cases l with
    | nil => simp
    | cons v l =>
      rw [List.flatMap_cons, List.take_succ_cons, List.flatMap_cons, List.take_append, valC_length, List.take_of_length_le (by rw [valC_length]; omega), show (i + 1) * 7 - 7 = i * 7 by omega, ih]

/-- A slice of values in memory. -/
def ValsAt (w : World) (v : Value) (l : List Val) : Prop := RowS 7 w v l.length (l.flatMap valC)

theorem ValsAt.at {w : World} {a : Option Addr} {n cap : Nat} {l : List Val} (h : ValsAt w (.slice a n cap) l) {i : Nat} (hi : i < l.length) :
    ∃ b off, a = some ⟨b, off, none⟩ ∧ w.cell? ⟨b, off + i * 7, none⟩ = some (.int .i64 l[i].k) ∧ w.cell? ⟨b, off + i * 7 + 1, none⟩ = some (.bool l[i].n) ∧ w.cell? ⟨b, off + i * 7 + 2, none⟩ = some (.slice l[i].na l[i].nl l[i].nc) ∧
      w.cell? ⟨b, off + i * 7 + 3, none⟩ = some (.bool l[i].d) ∧ w.cell? ⟨b, off + i * 7 + 4, none⟩ = some (.slice l[i].da l[i].dl l[i].dc) ∧ w.cell? ⟨b, off + i * 7 + 5, none⟩ = some (.string l[i].s) ∧ w.cell? ⟨b, off + i * 7 + 6, none⟩ = some (.int .i64 l[i].r) := by
  obtain ⟨a', cap', he, _, _, hn, hc⟩ := h
  simp only [Value.slice.injEq] at he
  obtain ⟨rfl, rfl, rfl⟩ := he
  have hlen := flat_length7 l
  have key : ∀ j, j < 7 → ∃ b off, a = some ⟨b, off, none⟩ ∧ w.cell? ⟨b, off + (i * 7 + j), none⟩ = (valC l[i])[j]? := by
    intro j hj
    have hlt : i * 7 + j < (l.flatMap valC).length := by rw [hlen]; omega
    obtain ⟨b, off, e, h1⟩ := hc (i * 7 + j) hlt
    refine ⟨b, off, e, ?_⟩
    rw [h1, ← List.getElem?_eq_getElem hlt, flat_at l i j hi hj]
  obtain ⟨b, off, rfl, h0⟩ := key 0 (by omega)
  refine ⟨b, off, rfl, by simpa [valC] using h0, ?_, ?_, ?_, ?_, ?_, ?_⟩
  all_goals
    first
    | (obtain ⟨b', off', e, h1⟩ := key 1 (by omega); simp only [Option.some.injEq, Addr.mk.injEq, and_true] at e; obtain ⟨rfl, rfl⟩ := e; simpa [valC, Nat.add_assoc] using h1; done)
    | (obtain ⟨b', off', e, h1⟩ := key 2 (by omega); simp only [Option.some.injEq, Addr.mk.injEq, and_true] at e; obtain ⟨rfl, rfl⟩ := e; simpa [valC, Nat.add_assoc] using h1; done)
    | (obtain ⟨b', off', e, h1⟩ := key 3 (by omega); simp only [Option.some.injEq, Addr.mk.injEq, and_true] at e; obtain ⟨rfl, rfl⟩ := e; simpa [valC, Nat.add_assoc] using h1; done)
    | (obtain ⟨b', off', e, h1⟩ := key 4 (by omega); simp only [Option.some.injEq, Addr.mk.injEq, and_true] at e; obtain ⟨rfl, rfl⟩ := e; simpa [valC, Nat.add_assoc] using h1; done)
    | (obtain ⟨b', off', e, h1⟩ := key 5 (by omega); simp only [Option.some.injEq, Addr.mk.injEq, and_true] at e; obtain ⟨rfl, rfl⟩ := e; simpa [valC, Nat.add_assoc] using h1; done)
    | (obtain ⟨b', off', e, h1⟩ := key 6 (by omega); simp only [Option.some.injEq, Addr.mk.injEq, and_true] at e; obtain ⟨rfl, rfl⟩ := e; simpa [valC, Nat.add_assoc] using h1; done)

theorem ValsAt.below {w w' : World} {v : Value} {l : List Val} (h : ValsAt w v l) (hb : Below w.heap.size w w') : ValsAt w' v l := RowS.below h hb
end Go.Proofs.Ytbickehhnkhabaa
