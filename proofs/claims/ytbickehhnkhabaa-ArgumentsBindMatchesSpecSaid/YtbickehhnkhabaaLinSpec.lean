/- What lineage computes, in plain terms: the merge of linearizations. Nothing here speaks of the program. -/
import Derived.Test.YtbickehhnkhabaaBase
namespace Go.Proofs.Ytbickehhnkhabaa

def hasI (l : List Int) (x : Int) : Bool := decide (0 ≤ idxFrom x l 0)

def headI (l : List Int) : Int := l.headD 0

/-- Does n stand in one of the lists behind its first place? -/
def blocked (B : List (List Int)) (n : Int) : Bool := B.any fun y => hasI y.tail n

/-- The first head of R that is not blocked in B. -/
def cand (B : List (List Int)) : List (List Int) → Option Int
  | [] => none
  | x :: R => if blocked B (headI x) then cand B R else some (headI x)

/-- The lists that are not empty. -/
def ne (B : List (List Int)) : List (List Int) := B.filter fun x => !x.isEmpty
/-- n is taken off the front of a list. -/
def beh (n : Int) (x : List Int) : List Int := if headI x == n then x.tail else x
/-- n is taken off the front of each list; empty lists go. -/
def strip (n : Int) (B : List (List Int)) : List (List Int) := ne (B.map (beh n))
def stripTo (n : Int) (k : Nat) (B : List (List Int)) : List (List Int) := (B.take k).map (beh n) ++ B.drop k

def mergeF : Nat → List Int → List (List Int) → List Int × List (List Int)
  | 0, out, B => (out, B)
  | k + 1, out, B => match cand B B with
    | none => (out, B)
    | some n => mergeF k (out ++ [n]) (strip n B)

def total (B : List (List Int)) : Nat := (B.map List.length).sum

theorem stripTo_zero (n : Int) (B : List (List Int)) : stripTo n 0 B = B := by simp [stripTo]
theorem stripTo_all (n : Int) (B : List (List Int)) : stripTo n B.length B = B.map (beh n) := by simp [stripTo]
theorem stripTo_length (n : Int) (k : Nat) (B : List (List Int)) (h : k ≤ B.length) : (stripTo n k B).length = B.length := by simp [stripTo]; omega
theorem stripTo_get (n : Int) (k : Nat) (B : List (List Int)) (h : k < B.length) : (stripTo n k B)[k]'(by rw [stripTo_length _ _ _ (by omega)]; exact h) = B[k] := by
  unfold stripTo
  rw [List.getElem_append_right (by simp; exact Nat.min_le_left _ _)]
  simp [Nat.min_eq_left (Nat.le_of_lt h)]
theorem stripTo_succ (n : Int) (k : Nat) (B : List (List Int)) (h : k < B.length) : stripTo n (k + 1) B = (stripTo n k B).set k (beh n B[k]) := by
  unfold stripTo
  have hl : ((B.take k).map (beh n)).length = k := by simp; omega
  rw [List.set_append_right _ _ (by omega), hl, List.take_succ_eq_append_getElem h, List.map_append, List.drop_eq_getElem_cons h, Nat.sub_self, List.set_cons_zero, List.append_assoc]
  rfl
theorem stripTo_same (n : Int) (k : Nat) (B : List (List Int)) (h : k < B.length) (hn : (headI B[k] == n) = false) : stripTo n (k + 1) B = stripTo n k B := by
  rw [stripTo_succ n k B h]
  have hb : beh n B[k] = B[k] := by unfold beh; rw [hn]; rfl
  rw [hb]
  have hg := stripTo_get n k B h
  have hlen := stripTo_length n k B (Nat.le_of_lt h)
  apply List.ext_getElem (by simp)
  intro i h1 h2
  rw [List.getElem_set]
  split
  · subst_vars; exact hg.symm
  · rfl
theorem stripTo_behind (n : Int) (k : Nat) (B : List (List Int)) (h : k < B.length) (hn : (headI B[k] == n) = true) : stripTo n (k + 1) B = (stripTo n k B).set k B[k].tail := by
  rw [stripTo_succ n k B h]; unfold beh; rw [hn]; rfl

theorem total_cons (x : List Int) (B : List (List Int)) : total (x :: B) = x.length + total B := by simp [total]
theorem total_ne (B : List (List Int)) : total (ne B) = total B := by
  induction B with
  | nil => rfl
  | cons x B ih =>
    unfold ne at *
    rw [List.filter_cons, total_cons]
    cases x with
    | nil => simpa using ih
    | cons a x => simp [total_cons, ih]
theorem ne_mem (B : List (List Int)) : ∀ x ∈ ne B, x ≠ [] := by
  intro x hx; unfold ne at hx; simp at hx; exact hx.2
theorem beh_length (n : Int) (x : List Int) : (beh n x).length ≤ x.length := by unfold beh; split <;> simp
theorem total_beh_le (n : Int) (B : List (List Int)) : total (B.map (beh n)) ≤ total B := by
  induction B with
  | nil => simp [total]
  | cons x B ih => rw [List.map_cons, total_cons, total_cons]; have := beh_length n x; omega
theorem total_beh (n : Int) (B : List (List Int)) (hne : ∀ x ∈ B, x ≠ []) (hx : ∃ x ∈ B, headI x = n) : total (B.map (beh n)) < total B := by
  induction B with
  | nil => simp at hx
  | cons y B ih =>
    rw [List.map_cons, total_cons, total_cons]
    have h1 := beh_length n y
    have h2 := total_beh_le n B
    by_cases hy : headI y = n
    · have hy' : 0 < y.length := List.length_pos_iff.2 (hne y (by simp))
      have h3 : (beh n y).length = y.length - 1 := by unfold beh; simp [hy]
      omega
    · obtain ⟨x, hxm, hxn⟩ := hx
      have hxB : x ∈ B := by
        rcases List.mem_cons.1 hxm with h | h
        · subst h; exact absurd hxn hy
        · exact h
      have := ih (fun x hx => hne x (by simp [hx])) ⟨x, hxB, hxn⟩
      omega
theorem cand_mem {B R : List (List Int)} {n : Int} (h : cand B R = some n) : ∃ x ∈ R, headI x = n := by
  induction R with
  | nil => simp [cand] at h
  | cons x R ih =>
    unfold cand at h
    split at h
    · obtain ⟨y, hy, e⟩ := ih h; exact ⟨y, by simp [hy], e⟩
    · simp at h; exact ⟨x, by simp, h⟩
theorem mergeF_none {k : Nat} {out : List Int} {B : List (List Int)} (h : cand B B = none) : mergeF k out B = (out, B) := by
  cases k <;> simp [mergeF, h]
theorem mergeF_some {k : Nat} {out : List Int} {B : List (List Int)} {n : Int} (h : cand B B = some n) : mergeF (k + 1) out B = mergeF k (out ++ [n]) (strip n B) := by
  simp [mergeF, h]

theorem cand_snoc (B R : List (List Int)) (x : List Int) : cand B (R ++ [x]) = match cand B R with
    | some n => some n
    | none => if blocked B (headI x) then none else some (headI x) := by
  induction R with
  | nil => simp [cand]
  | cons y R ih =>
    rw [List.cons_append, cand, cand]
    split
    · exact ih
    · rfl
theorem ne_snoc (B : List (List Int)) (x : List Int) : ne (B ++ [x]) = if x.length = 0 then ne B else ne B ++ [x] := by
  unfold ne
  rw [List.filter_append]
  cases x with
  | nil => simp
  | cons a x => simp
theorem ne_self {B : List (List Int)} (h : ∀ x ∈ B, x ≠ []) : ne B = B := by
  unfold ne
  rw [List.filter_eq_self]
  intro x hx
  have := h x hx
  cases x with
  | nil => exact absurd rfl this
  | cons a x => rfl
end Go.Proofs.Ytbickehhnkhabaa
