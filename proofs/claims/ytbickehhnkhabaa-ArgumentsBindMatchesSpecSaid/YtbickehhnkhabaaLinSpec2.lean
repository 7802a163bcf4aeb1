/- What lineage's check of linearizations computes, in plain terms. Nothing here speaks of the program. -/
import Derived.Test.YtbickehhnkhabaaLinSpec
import Derived.Test.YtbickehhnkhabaaOwn
import Derived.Maps.OwnSet
namespace Go.Proofs.Ytbickehhnkhabaa
open Go.RowKit

def dupI (l : List Int) : Bool := !decide l.Nodup
def negI (l : List Int) : Bool := l.any fun x => decide (x < 0)
/-- Has one of the lists the head n? -/
def headsHave (B : List (List Int)) (n : Int) : Bool := B.any fun m => headI m == n

def chkFrom (B : List (List Int)) : Nat → List (List Int) → Int × Int
  | _, [] => (0, 0)
  | k, l :: R => if l.length = 0 then (10, k) else if 40 < l.length then (2, k) else if negI l then (4, k) else if dupI l || headsHave (B.take k) (headI l) then (8, k) else chkFrom B (k + 1) R
def chkF (B : List (List Int)) : Int × Int := if 8 < B.length then (2, -1) else chkFrom B 0 B

theorem chkFrom_drop (B : List (List Int)) (k : Nat) (h : k < B.length) : chkFrom B k (B.drop k) =
    if B[k].length = 0 then (10, (k : Int)) else if 40 < B[k].length then (2, (k : Int)) else if negI B[k] then (4, (k : Int)) else if dupI B[k] || headsHave (B.take k) (headI B[k]) then (8, (k : Int)) else chkFrom B (k + 1) (B.drop (k + 1)) := by
  rw [List.drop_eq_getElem_cons h, chkFrom]

theorem idxFrom_nonneg (x : Int) (l : List Int) (k : Nat) : 0 ≤ idxFrom x l k ↔ x ∈ l := by
  induction l generalizing k with
  | nil => simp [idxFrom]
  | cons y l ih =>
    unfold idxFrom
    by_cases h : x = y
    · subst h; simp
    · have h' : (x == y) = false := by simpa using h
      rw [h', List.mem_cons]
      simp only [Bool.false_eq_true, if_false, ih (k + 1), h, false_or]

theorem hasI_iff (l : List Int) (x : Int) : hasI l x = decide (x ∈ l) := by
  unfold hasI
  by_cases h : x ∈ l
  · simp [h, (idxFrom_nonneg x l 0).2 h]
  · have h2 : ¬ 0 ≤ idxFrom x l 0 := fun h' => h ((idxFrom_nonneg x l 0).1 h')
    simp [h]; omega

theorem dupI_snoc (l : List Int) (x : Int) : dupI (l ++ [x]) = (dupI l || hasI l x) := by
  rw [hasI_iff]
  unfold dupI
  have hnd : (l ++ [x]).Nodup ↔ l.Nodup ∧ x ∉ l := by
    rw [List.nodup_append]
    constructor
    · rintro ⟨a, _, c⟩
      exact ⟨a, fun hx => c x hx x (by simp) rfl⟩
    · rintro ⟨a, b⟩
      exact ⟨a, by simp, fun y hy z hz => by simp at hz; subst hz; intro e; subst e; exact b hy⟩
  by_cases h1 : l.Nodup <;> by_cases h2 : x ∈ l <;> simp [hnd, h1, h2]

theorem dupI_take (l : List Int) (k : Nat) (h : k < l.length) : dupI (l.take (k + 1)) = (dupI (l.take k) || hasI (l.take k) l[k]) := by
  rw [List.take_succ_eq_append_getElem h, dupI_snoc]

def lowI (l : List Int) : Int := l.foldl min 0
theorem lowI_take (l : List Int) (k : Nat) (h : k < l.length) : lowI (l.take (k + 1)) = min (lowI (l.take k)) l[k] := by
  unfold lowI
  rw [List.take_succ_eq_append_getElem h, List.foldl_append]; rfl
theorem foldl_min_neg (l : List Int) (a : Int) (ha : a ≤ 0) : (decide (l.foldl min a < 0)) = (decide (a < 0) || negI l) := by
  induction l generalizing a with
  | nil => show decide (a < 0) = (decide (a < 0) || false); rw [Bool.or_false]
  | cons x l ih =>
    rw [List.foldl_cons, ih (min a x) (by omega)]
    unfold negI
    rw [List.any_cons, ← Bool.or_assoc]
    congr 1
    by_cases h1 : a < 0 <;> by_cases h2 : x < 0 <;> simp [h1, h2] <;> omega
theorem lowI_neg (l : List Int) : decide (lowI l < 0) = negI l := by
  unfold lowI; rw [foldl_min_neg l 0 (by omega)]; simp

theorem headsHave_has (B : List (List Int)) (n : Int) : hasI (B.map headI) n = headsHave B n := by
  rw [hasI_iff]
  unfold headsHave
  by_cases h : n ∈ B.map headI
  · have : (B.any fun m => headI m == n) = true := by
      obtain ⟨m, hm, e⟩ := List.mem_map.1 h
      exact List.any_eq_true.2 ⟨m, hm, by simpa using e⟩
    simp [h, this]
  · have : (B.any fun m => headI m == n) = false := by
      rw [List.any_eq_false]
      intro m hm e
      exact h (List.mem_map.2 ⟨m, hm, by simpa using e⟩)
    simp [h, this]

theorem chkFrom_ok (B : List (List Int)) : ∀ (R : List (List Int)) (k : Nat), (chkFrom B k R).1 = 0 → ∀ y ∈ R, y ≠ [] ∧ y.length ≤ 40
  | [], _, _ => by simp
  | l :: R, k, h => by
    unfold chkFrom at h
    split at h
    · simp at h
    · split at h
      · simp at h
      · split at h
        · simp at h
        · split at h
          · simp at h
          · have ih := chkFrom_ok B R (k + 1) h
            intro y hy
            rcases List.mem_cons.1 hy with rfl | hy
            · exact ⟨by intro e; subst e; simp at *, by omega⟩
            · exact ih y hy

theorem chkF_ok {B : List (List Int)} (h : (chkF B).1 = 0) : B.length ≤ 8 ∧ ∀ y ∈ B, y ≠ [] ∧ y.length ≤ 40 := by
  unfold chkF at h
  split at h
  · simp at h
  · exact ⟨by omega, chkFrom_ok B B 0 h⟩

theorem total_le (B : List (List Int)) (c : Nat) (h : ∀ y ∈ B, y.length ≤ c) : total B ≤ B.length * c := by
  induction B with
  | nil => simp [total]
  | cons y B ih =>
    rw [total_cons, List.length_cons, Nat.add_mul]
    have := ih (fun z hz => h z (by simp [hz]))
    have := h y (by simp)
    omega

theorem total_append (A B : List (List Int)) : total (A ++ B) = total A + total B := by simp [total]

def mergedF (B : List (List Int)) : List Int × List (List Int) := mergeF (total (B ++ [B.map headI]) + 1) [] (ne (B ++ [B.map headI]))

/-- What Order answers: the linearization and the fault. -/
def orderF (B : List (List Int)) : List Int × Int × Int :=
  if (chkF B).1 ≠ 0 then ([], chkF B)
  else if 0 < (mergedF B).2.length then ([], 19, -1)
  else if 40 ≤ (mergedF B).1.length then ([], 14, -1)
  else ((mergedF B).1, 0, 0)

theorem firstFrom_any {α : Type} (l : List α) (p : Nat → Bool) (q : α → Bool) (h : ∀ i (hi : i < l.length), p i = q l[i]) : decide (0 ≤ firstFrom p l.length 0) = l.any q := by
  rcases firstFrom_spec p l.length 0 with ⟨h1, h2⟩ | ⟨i, _, hi, h1, hp, _⟩
  · rw [h1]
    have : l.any q = false := by
      rw [List.any_eq_false]
      intro x hx
      obtain ⟨i, hi, rfl⟩ := List.getElem_of_mem hx
      rw [← h i hi, h2 i (Nat.zero_le _) hi]; simp
    rw [this]; rfl
  · rw [h1]
    have : l.any q = true := by
      rw [List.any_eq_true]
      exact ⟨l[i], List.getElem_mem hi, by rw [← h i hi]; exact hp⟩
    rw [this]; simp

/-! The number of different integers, as a map of the call counts them. -/
def keysI (l : List Int) : List Lit := l.map (Lit.int .i64)
def setI (l : List Int) : DataW Unit := Maps.setOf (.agg []) (keysI l)

theorem setI_snoc (l : List Int) (x : Int) : setI (l ++ [x]) = (setI l).put (.int .i64 x) (.agg []) := by
  unfold setI keysI
  rw [List.map_append, List.map_cons, List.map_nil, Maps.setOf_snoc]

theorem keyLit (l : List Int) : ∀ x ∈ keysI l, WideAt.IsKeyLit x := by
  intro x hx
  obtain ⟨y, _, rfl⟩ := List.mem_map.1 hx
  exact trivial

theorem addKeys (l : List Int) : ∃ acc : List Int, (keysI l).foldl Maps.addKey [] = keysI acc ∧ (∀ x, x ∈ acc ↔ x ∈ l) ∧ acc.length ≤ l.length ∧ (acc.length = l.length ↔ l.Nodup) := by
  induction hn : l.length generalizing l with
  | zero =>
    have : l = [] := List.eq_nil_of_length_eq_zero hn
    subst this
    exact ⟨[], rfl, fun _ => Iff.rfl, Nat.le_refl _, by simp⟩
  | succ n ih =>
    obtain ⟨l', x, rfl⟩ : ∃ l' x, l = l' ++ [x] := by
      have hne : l ≠ [] := by intro h; rw [h] at hn; simp at hn
      exact ⟨l.dropLast, l.getLast hne, (List.dropLast_concat_getLast hne).symm⟩
    obtain ⟨acc, h1, h2, h3, h4⟩ := ih l' (by simpa using hn)
    have hf : (keysI (l' ++ [x])).foldl Maps.addKey [] = Maps.addKey (keysI acc) (.int .i64 x) := by
      unfold keysI
      rw [List.map_append, List.foldl_append]
      show Maps.addKey _ _ = _
      rw [show (l'.map (Lit.int .i64)) = keysI l' from rfl, h1]; rfl
    have hany : (keysI acc).any (fun y => y.sameKey (.int .i64 x)) = decide (x ∈ acc) := by
      rw [Bool.eq_iff_iff, List.any_eq_true]
      simp only [decide_eq_true_eq]
      constructor
      · rintro ⟨y, hy, he⟩
        obtain ⟨z, hz, rfl⟩ := List.mem_map.1 hy
        simp [Lit.sameKey] at he
        subst he; exact hz
      · intro hx
        exact ⟨_, List.mem_map.2 ⟨x, hx, rfl⟩, by simp [Lit.sameKey]⟩
    have hnd : (l' ++ [x]).Nodup ↔ l'.Nodup ∧ x ∉ l' := by
      rw [List.nodup_append]
      constructor
      · rintro ⟨a, _, c⟩
        exact ⟨a, fun hx => c x hx x (by simp) rfl⟩
      · rintro ⟨a, b⟩
        exact ⟨a, by simp, fun y hy z hz => by simp at hz; subst hz; intro e; subst e; exact b hy⟩
    rw [hf]
    unfold Maps.addKey
    rw [hany]
    by_cases hx : x ∈ acc
    · simp only [hx, decide_true, if_true]
      refine ⟨acc, rfl, fun y => ?_, by simp at hn ⊢; omega, ?_⟩
      · rw [h2 y, List.mem_append, List.mem_singleton]
        constructor
        · exact .inl
        · rintro (h | rfl)
          · exact h
          · exact (h2 _).1 hx
      · simp only [List.length_append, List.length_cons, List.length_nil] at hn ⊢
        constructor
        · intro h; omega
        · intro h; exact absurd ((h2 x).1 hx) (hnd.1 h).2
    · simp only [hx, decide_false]
      refine ⟨acc ++ [x], by simp [keysI], fun y => ?_, by simp at hn ⊢; omega, ?_⟩
      · simp only [List.mem_append, h2 y]
      · simp only [List.length_append, List.length_cons, List.length_nil] at hn ⊢
        rw [hnd]
        have hx' : x ∉ l' := fun h => hx ((h2 x).2 h)
        constructor
        · intro h; exact ⟨h4.1 (by omega), hx'⟩
        · intro h; have := h4.2 h.1; omega

theorem size_setI (l : List Int) : Maps.size (setI l) ≤ l.length ∧ (decide (Maps.size (setI l) < l.length) = dupI l) := by
  obtain ⟨acc, h1, _, h3, h4⟩ := addKeys l
  have hs : Maps.size (setI l) = acc.length := by
    unfold setI
    rw [Maps.size_setOf _ _ (keyLit l), h1]; simp [keysI]
  rw [hs]
  refine ⟨h3, ?_⟩
  unfold dupI
  by_cases h : l.Nodup
  · have := h4.2 h
    simp [h, this]
  · have : acc.length ≠ l.length := fun e => h (h4.1 e)
    simp [h]; omega
end Go.Proofs.Ytbickehhnkhabaa
