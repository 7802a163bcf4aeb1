/- Plain laws of the circle of a contradiction. Nothing here speaks of the program. -/
import Derived.Test.YtbickehhnkhabaaKeepSpec
import Derived.Lib.Slices
namespace Go.Proofs.Ytbickehhnkhabaa

theorem idxFrom_get (x : Int) (l : List Int) (s : Nat) (h : x ∈ l) : ∃ k, ∃ hk : k < l.length, idxFrom x l s = ((s + k : Nat) : Int) ∧ l[k] = x ∧ ∀ j (hj : j < k), l[j] ≠ x := by
  induction l generalizing s with
  | nil => cases h
  | cons y l ih =>
    by_cases e : x = y
    · subst e
      exact ⟨0, by simp, by simp [idxFrom], rfl, fun j hj => absurd hj (by omega)⟩
    · have e' : (x == y) = false := by simpa using e
      obtain ⟨k, hk, h1, h2, h3⟩ := ih (s + 1) (by simpa [e] using h)
      refine ⟨k + 1, by simp; omega, by rw [idxFrom, e', if_neg (by simp), h1]; congr 1; omega, by simpa using h2, fun j hj => ?_⟩
      cases j with
      | zero => simp; exact fun e2 => e e2.symm
      | succ j => simpa using h3 j (by omega)

theorem beh_suffix (n : Int) (x : List Int) : beh n x <:+ x := by
  unfold beh; split
  · exact List.tail_suffix x
  · exact List.suffix_refl x

theorem mergeF_suffix (k : Nat) : ∀ (out : List Int) (B : List (List Int)), ∀ x ∈ (mergeF k out B).2, ∃ y ∈ B, x <:+ y := by
  induction k with
  | zero => intro out B x hx; exact ⟨x, hx, List.suffix_refl x⟩
  | succ k ih =>
    intro out B x hx
    cases h : cand B B with
    | none => rw [mergeF_none h] at hx; exact ⟨x, hx, List.suffix_refl x⟩
    | some n =>
      rw [mergeF_some h] at hx
      obtain ⟨y, hy, hs⟩ := ih _ _ x hx
      obtain ⟨_, z, hz, rfl⟩ := mem_strip hy
      exact ⟨z, hz, hs.trans (beh_suffix n z)⟩

theorem mergeF_ne (k : Nat) : ∀ (out : List Int) (B : List (List Int)), (∀ x ∈ B, x ≠ []) → ∀ x ∈ (mergeF k out B).2, x ≠ [] := by
  induction k with
  | zero => intro out B hB x hx; exact hB x hx
  | succ k ih =>
    intro out B hB x hx
    cases h : cand B B with
    | none => rw [mergeF_none h] at hx; exact hB x hx
    | some n =>
      rw [mergeF_some h] at hx
      exact ih _ _ (fun y hy => (mem_strip hy).1) x hx

theorem mergeF_stuck (k : Nat) : ∀ (out : List Int) (B : List (List Int)), (∀ x ∈ B, x ≠ []) → total B < k → cand (mergeF k out B).2 (mergeF k out B).2 = none := by
  induction k with
  | zero => intro out B _ h; omega
  | succ k ih =>
    intro out B hB ht
    cases h : cand B B with
    | none => rw [mergeF_none h]; exact h
    | some n =>
      rw [mergeF_some h]
      refine ih _ _ (fun y hy => (mem_strip hy).1) ?_
      have h1 := total_beh n B hB (cand_mem h)
      unfold strip
      rw [total_ne]
      omega

theorem mergeF_count (k : Nat) : ∀ (out : List Int) (B : List (List Int)), (mergeF k out B).2.length ≤ B.length := by
  induction k with
  | zero => intro out B; exact Nat.le_refl _
  | succ k ih =>
    intro out B
    cases h : cand B B with
    | none => rw [mergeF_none h]; exact Nat.le_refl _
    | some n =>
      rw [mergeF_some h]
      refine Nat.le_trans (ih _ _) ?_
      unfold strip ne
      exact Nat.le_trans (List.length_filter_le _ _) (by simp)

theorem cand_none {B R : List (List Int)} (h : cand B R = none) : ∀ x ∈ R, blocked B (headI x) = true := by
  induction R with
  | nil => intro x hx; cases hx
  | cons y R ih =>
    intro x hx
    unfold cand at h
    split at h
    · rename_i hb
      rcases List.mem_cons.1 hx with rfl | hx
      · exact hb
      · exact ih h x hx
    · cases h

/-- What is left of lists that contradict each other. -/
structure Rest (R : List (List Int)) : Prop where
  ne : ∀ x ∈ R, x ≠ []
  nd : ∀ x ∈ R, x.Nodup
  blk : ∀ x ∈ R, ∃ y ∈ R, headI x ∈ y.tail

theorem rest_ok {B : List (List Int)} (h : (chkF B).1 = 0) : Rest (mergedF B).2 ∧ (mergedF B).2.length ≤ B.length + 1 ∧ ∀ x ∈ (mergedF B).2, ∃ y, (y ∈ B ∨ y = B.map headI) ∧ x <:+ y := by
  have hs : ∀ x ∈ (mergedF B).2, ∃ y, (y ∈ B ∨ y = B.map headI) ∧ x <:+ y := by
    intro x hx
    obtain ⟨y, hy, hxy⟩ := mergeF_suffix _ _ _ x hx
    unfold Proofs.Ytbickehhnkhabaa.ne at hy
    rw [List.mem_filter] at hy
    refine ⟨y, ?_, hxy⟩
    simpa using hy.1
  refine ⟨⟨mergeF_ne _ _ _ (ne_mem _), ?_, ?_⟩, ?_, hs⟩
  · intro x hx
    obtain ⟨y, hy, hxy⟩ := hs x hx
    refine List.Sublist.nodup hxy.sublist ?_
    rcases hy with hy | rfl
    · exact chkF_nodup h y hy
    · exact chkF_heads h
  · intro x hx
    have h1 := mergeF_stuck (total (B ++ [B.map headI]) + 1) [] (Proofs.Ytbickehhnkhabaa.ne (B ++ [B.map headI])) (ne_mem _) (by rw [total_ne]; omega)
    exact (blocked_iff _ _).1 (cand_none h1 x hx)
  · refine Nat.le_trans (mergeF_count _ _ _) ?_
    unfold Proofs.Ytbickehhnkhabaa.ne
    exact Nat.le_trans (List.length_filter_le _ _) (by simp)

/-- The head of the first list that has n behind its head. -/
def nextF : List (List Int) → Int → Int
  | [], _ => 0
  | x :: R, n => if hasI x.tail n then headI x else nextF R n

theorem nextF_drop (R : List (List Int)) (n : Int) (k : Nat) (h : k < R.length) : nextF (R.drop k) n = if hasI R[k].tail n then headI R[k] else nextF (R.drop (k + 1)) n := by
  rw [List.drop_eq_getElem_cons h, nextF]
theorem nextF_first (R : List (List Int)) (n : Int) (i : Nat) (hi : i < R.length) (hp : hasI R[i].tail n = true) (hb : ∀ j (hj : j < i), hasI R[j].tail n = false) : nextF R n = headI R[i] := by
  have h : ∀ j, j ≤ i → nextF R n = nextF (R.drop j) n := by
    intro j
    induction j with
    | zero => intro _; rfl
    | succ j ih => intro hj; rw [ih (by omega), nextF_drop R n j (by omega), hb j (by omega)]; rfl
  rw [h i (Nat.le_refl _), nextF_drop R n i hi, hp]; rfl
theorem nextF_spec {R : List (List Int)} {n : Int} (h : ∃ y ∈ R, n ∈ y.tail) : ∃ x ∈ R, n ∈ x.tail ∧ headI x = nextF R n := by
  induction R with
  | nil => obtain ⟨y, hy, _⟩ := h; cases hy
  | cons x R ih =>
    rw [nextF]
    by_cases e : n ∈ x.tail
    · rw [if_pos (by rw [hasI_iff]; simpa using e)]; exact ⟨x, by simp, e, rfl⟩
    · rw [if_neg (by rw [hasI_iff]; simpa using e)]
      obtain ⟨y, hy, hn⟩ := h
      have hyR : y ∈ R := by
        rcases List.mem_cons.1 hy with rfl | h
        · exact absurd hn e
        · exact h
      obtain ⟨z, hz, h1, h2⟩ := ih ⟨y, hyR, hn⟩
      exact ⟨z, by simp [hz], h1, h2⟩

/-- A way from head to head. -/
structure Way (R : List (List Int)) (way : List Int) (at' : Int) : Prop where
  nd : way.Nodup
  mem : ∀ x ∈ way, ∃ y ∈ R, headI y = x
  mat : ∃ y ∈ R, headI y = at'
  step : ∀ i (h : i + 1 < way.length), nextF R way[i] = way[i + 1]
  last : ∀ h : 0 < way.length, nextF R (way[way.length - 1]'(by omega)) = at'

theorem Way.nil {R : List (List Int)} (h : 0 < R.length) : Way R [] (headI R[0]) :=
  ⟨List.nodup_nil, fun x h => (by cases h), ⟨R[0], List.getElem_mem h, rfl⟩, fun i h => absurd h (by simp), fun h => absurd h (by simp)⟩

theorem Rest.next {R : List (List Int)} (h : Rest R) {n : Int} (hn : ∃ y ∈ R, headI y = n) : ∃ x ∈ R, n ∈ x.tail ∧ headI x = nextF R n := by
  obtain ⟨y, hy, rfl⟩ := hn
  exact nextF_spec (h.blk y hy)

theorem Way.snoc {R : List (List Int)} {way : List Int} {n : Int} (h : Way R way n) (hR : Rest R) (hn : n ∉ way) : Way R (way ++ [n]) (nextF R n) := by
  refine ⟨?_, ?_, ?_, ?_, ?_⟩
  · rw [List.nodup_append]
    exact ⟨h.nd, by simp, fun a ha b hb e => by simp at hb; subst hb; subst e; exact hn ha⟩
  · intro x hx
    rcases List.mem_append.1 hx with hx | hx
    · exact h.mem x hx
    · simp at hx; subst hx; exact h.mat
  · obtain ⟨x, hx, _, e⟩ := hR.next h.mat
    exact ⟨x, hx, e⟩
  · intro i hi
    simp at hi
    by_cases e : i + 1 < way.length
    · rw [List.getElem_append_left (by omega), List.getElem_append_left e]; exact h.step i e
    · have e2 : i = way.length - 1 := by omega
      subst e2
      rw [List.getElem_append_left (by omega), List.getElem_append_right (by omega)]
      simpa using h.last (by omega)
  · intro hi
    rw [List.getElem_append_right (by simp)]
    simp

theorem Way.le {R : List (List Int)} {way : List Int} {n : Int} (h : Way R way n) : way.length ≤ R.length := by
  have := nodup_le (m := R.map headI) h.nd fun x hx => by
    obtain ⟨y, hy, rfl⟩ := h.mem x hx
    exact List.mem_map.2 ⟨y, hy, rfl⟩
  simpa using this

def wayF (R : List (List Int)) : Nat → List Int → Int → List Int × Int
  | 0, way, n => (way, n)
  | k + 1, way, n => if hasI way n then (way, n) else wayF R k (way ++ [n]) (nextF R n)

theorem wayF_stop (R : List (List Int)) (k : Nat) {way : List Int} {n : Int} (h : hasI way n = true) : wayF R k way n = (way, n) := by
  cases k <;> simp [wayF, h]
theorem wayF_go (R : List (List Int)) (k : Nat) {way : List Int} {n : Int} (h : hasI way n = false) : wayF R (k + 1) way n = wayF R k (way ++ [n]) (nextF R n) := by
  simp [wayF, h]

theorem wayF_ok {R : List (List Int)} (hR : Rest R) (k : Nat) : ∀ (way : List Int) (n : Int), Way R way n → R.length < k + way.length → Way R (wayF R k way n).1 (wayF R k way n).2 ∧ (wayF R k way n).2 ∈ (wayF R k way n).1 := by
  induction k with
  | zero => intro way n h hk; have := h.le; omega
  | succ k ih =>
    intro way n h hk
    cases e : hasI way n with
    | true =>
      rw [wayF_stop R _ e]
      exact ⟨h, by rw [hasI_iff] at e; simpa using e⟩
    | false =>
      rw [wayF_go R _ e]
      exact ih _ _ (h.snoc hR (by rw [hasI_iff] at e; simpa using e)) (by simp; omega)

/-- A circle. -/
structure Circle (R : List (List Int)) (c : List Int) : Prop where
  pos : 0 < c.length
  nd : c.Nodup
  mem : ∀ x ∈ c, ∃ y ∈ R, headI y = x
  step : ∀ i (h : i < c.length), nextF R c[i] = c[(i + 1) % c.length]'(Nat.mod_lt _ (by omega))

theorem Way.circle {R : List (List Int)} {way : List Int} {n : Int} (h : Way R way n) {k : Nat} (hk : k < way.length) (hn : way[k] = n) : Circle R (way.drop k) := by
  refine ⟨by simp; omega, List.Sublist.nodup (List.drop_sublist _ _) h.nd, fun x hx => h.mem x (List.mem_of_mem_drop hx), fun i hi => ?_⟩
  simp at hi
  simp only [List.getElem_drop, List.length_drop]
  by_cases e : i + 1 < way.length - k
  · have h1 := h.step (k + i) (by omega)
    rw [h1]
    congr 1
    rw [Nat.mod_eq_of_lt e]; omega
  · have e2 : i + 1 = way.length - k := by omega
    have h1 := h.last (by omega)
    have e3 : way[k + i]'(by omega) = way[way.length - 1]'(by omega) := by congr 1; omega
    rw [e3, h1, ← hn]
    congr 1
    rw [e2, Nat.mod_self]; omega

/-- The circle, from the way that starts at the first head. -/
def circF (R : List (List Int)) : List Int := (wayF R (R.length + 1) [] (headI (R.headD []))).1.drop (idxFrom (wayF R (R.length + 1) [] (headI (R.headD []))).2 (wayF R (R.length + 1) [] (headI (R.headD []))).1 0).toNat

theorem circF_ok {R : List (List Int)} (hR : Rest R) (h0 : 0 < R.length) : Circle R (circF R) := by
  have hs : headI (R.headD []) = headI R[0] := by
    cases R with
    | nil => cases h0
    | cons x R => rfl
  obtain ⟨h1, h2⟩ := wayF_ok hR (R.length + 1) [] (headI R[0]) (Way.nil h0) (by simp)
  unfold circF
  rw [hs]
  obtain ⟨k, hk, e1, e2, _⟩ := idxFrom_get _ _ 0 h2
  rw [e1]
  simpa using h1.circle hk e2

theorem minOf_spec (l : List Int) (h : 0 < l.length) : Lib.minOf l ∈ l ∧ ∀ x ∈ l, Lib.minOf l ≤ x := by
  have hf : ∀ (l : List Int) (a : Int), l.foldl min a ≤ a ∧ (∀ x ∈ l, l.foldl min a ≤ x) ∧ (l.foldl min a = a ∨ l.foldl min a ∈ l) := by
    intro l
    induction l with
    | nil => intro a; simp
    | cons y l ih =>
      intro a
      obtain ⟨h1, h2, h3⟩ := ih (min a y)
      rw [List.foldl_cons]
      have hm1 : min a y ≤ a := by omega
      have hm2 : min a y ≤ y := by omega
      refine ⟨Int.le_trans h1 hm1, fun x hx => ?_, ?_⟩
      · rcases List.mem_cons.1 hx with rfl | hx
        · exact Int.le_trans h1 hm2
        · exact h2 x hx
      · rcases h3 with h3 | h3
        · rw [h3]
          by_cases e : a ≤ y
          · left; omega
          · right; have : min a y = y := by omega
            rw [this]; simp
        · right; simp [h3]
  cases l with
  | nil => cases h
  | cons y l =>
    unfold Lib.minOf
    simp only [List.headD_cons]
    obtain ⟨h1, h2, h3⟩ := hf (y :: l) y
    refine ⟨?_, h2⟩
    rcases h3 with h3 | h3
    · rw [h3]; simp
    · exact h3

/-- The circle, beginning with its least element. -/
def turnedF (l : List Int) : List Int := l.drop (idxFrom (Lib.minOf l) l 0).toNat ++ l.take (idxFrom (Lib.minOf l) l 0).toNat

theorem modw {m i n : Nat} (hm : m < n) (hi : i < n) : (m + n - i) % n = if i ≤ m then m - i else m + n - i := by
  split
  · rw [show m + n - i = (m - i) + n by omega, Nat.add_mod_right, Nat.mod_eq_of_lt (by omega)]
  · rw [Nat.mod_eq_of_lt (by omega)]

/-- The circle as the document gives it: from the least element backwards. -/
def outF (c : List Int) (m : Nat) : List Int := (List.range c.length).map fun k => c.getD ((m + c.length - k) % c.length) 0

theorem circ_eq {c : List Int} (hn : c.Nodup) {m : Nat} (hm : m < c.length) (hmin : ∀ j (h : j < c.length), c[m] ≤ c[j]) : turnedF c.reverse = outF c m := by
  have hp : 0 < c.reverse.length := by simp; omega
  obtain ⟨h1, h2⟩ := minOf_spec c.reverse hp
  obtain ⟨k, hk, e1, e2, _⟩ := idxFrom_get (Lib.minOf c.reverse) c.reverse 0 h1
  have hk' : k < c.length := by simpa using hk
  have hmk : c.length - 1 - k = m := by
    rw [List.getElem_reverse] at e2
    have h3 : c[c.length - 1 - k]'(by omega) = c[m] := by
      apply Int.le_antisymm
      · rw [e2]; exact h2 _ (by simp)
      · exact hmin _ (by omega)
    exact (List.getElem?_inj (by omega) hn).1 (by rw [List.getElem?_eq_getElem (by omega), List.getElem?_eq_getElem hm, h3])
  unfold turnedF
  rw [e1]
  simp only [Nat.zero_add, Int.toNat_natCast]
  apply List.ext_getElem (by simp [outF]; omega)
  intro i hi1 hi2
  have hi : i < c.length := by simpa [outF] using hi2
  simp only [outF, List.getElem_map, List.getElem_range]
  rw [modw hm hi]
  by_cases e : i < c.length - k
  · rw [List.getElem_append_left (by simp; omega), List.getElem_drop, List.getElem_reverse, if_pos (by omega), List.getD_eq_getElem?_getD, List.getElem?_eq_getElem (by omega), Option.getD_some]
    congr 1; omega
  · rw [List.getElem_append_right (by simp; omega), List.getElem_take, List.getElem_reverse, if_neg (by omega), List.getD_eq_getElem?_getD, List.getElem?_eq_getElem (by omega), Option.getD_some]
    congr 1; simp; omega

theorem min_exists {c : List Int} (h : 0 < c.length) : ∃ m, ∃ hm : m < c.length, ∀ j (h : j < c.length), c[m] ≤ c[j] := by
  obtain ⟨h1, h2⟩ := minOf_spec c h
  obtain ⟨m, hm, e⟩ := List.getElem_of_mem h1
  exact ⟨m, hm, fun j hj => by rw [e]; exact h2 _ (List.getElem_mem hj)⟩

/-- Does a stand in l ahead of b? -/
def aheadI (l : List Int) (a b : Int) : Bool := decide (0 ≤ idxFrom a l 0) && hasI (l.drop (idxFrom a l 0 + 1).toNat) b
def aheadF (B : List (List Int)) (a b : Int) : Bool := (B.any fun l => aheadI l a b) || aheadI (B.map headI) a b

theorem aheadI_suffix {x y : List Int} (h : x <:+ y) (hne : x ≠ []) {b : Int} (hb : b ∈ x.tail) : aheadI y (headI x) b = true := by
  obtain ⟨p, rfl⟩ := h
  have hx := eq_cons_headI hne
  generalize headI x = a at *
  generalize x.tail = t at *
  subst hx
  obtain ⟨k, hk, e1, e2, e3⟩ := idxFrom_get a (p ++ a :: t) 0 (by simp)
  unfold aheadI
  rw [e1, hasI_iff]
  have hkp : k ≤ p.length := by
    rcases Nat.lt_or_ge p.length k with h | h
    · exact absurd (by rw [List.getElem_append_right (Nat.le_refl _)]; simp) (e3 p.length h)
    · exact h
  have hmem : b ∈ (p ++ a :: t).drop (k + 1) := by
    rw [List.drop_append]
    apply List.mem_append_right
    have : k + 1 - p.length = 0 ∨ k + 1 - p.length = 1 := by omega
    rcases this with h | h <;> rw [h] <;> simp [hb]
  have e4 : ((((0 + k : Nat) : Int)) + 1).toNat = k + 1 := by omega
  rw [e4]
  simp only [decide_eq_true hmem, Bool.and_true]
  simp

theorem aheadF_of {B : List (List Int)} {x y : List Int} (hy : y ∈ B ∨ y = B.map headI) (h : x <:+ y) (hne : x ≠ []) {b : Int} (hb : b ∈ x.tail) : aheadF B (headI x) b = true := by
  unfold aheadF
  have h1 := aheadI_suffix h hne hb
  rcases hy with hy | rfl
  · rw [Bool.or_eq_true, List.any_eq_true]; exact .inl ⟨y, hy, h1⟩
  · rw [h1, Bool.or_true]

/-- What Blame answers. -/
def blameF (B : List (List Int)) : List Int × Int × Int :=
  if (chkF B).1 ≠ 0 then ([], chkF B)
  else if (mergedF B).2.length = 0 then ([], 12, -1)
  else (turnedF (circF (mergedF B).2).reverse, 0, 0)

theorem chkFrom_code (B : List (List Int)) : ∀ (R : List (List Int)) (k : Nat), (chkFrom B k R).1 ≠ 19
  | [], _ => by simp [chkFrom]
  | l :: R, k => by
    rw [chkFrom]
    split
    · simp
    · split
      · simp
      · split
        · simp
        · split
          · simp
          · exact chkFrom_code B R (k + 1)
theorem chkF_code (B : List (List Int)) : (chkF B).1 ≠ 19 := by
  unfold chkF; split
  · simp
  · exact chkFrom_code B B 0

theorem blame_codes (B : List (List Int)) : decide ((blameF B).2.1 = 0) = decide ((orderF B).2.1 = 19) := by
  unfold blameF orderF
  by_cases h : (chkF B).1 ≠ 0
  · rw [if_pos h, if_pos h]
    have := chkF_code B
    simp [h, this]
  · rw [if_neg h, if_neg h]
    by_cases h2 : (mergedF B).2.length = 0
    · rw [if_pos h2, if_neg (by omega)]
      split <;> simp
    · rw [if_neg h2, if_pos (by omega)]; simp

theorem circ_law {B R : List (List Int)} (hR : Rest R) (h1 : 0 < R.length) (hsuf : ∀ x ∈ R, ∃ y, (y ∈ B ∨ y = B.map headI) ∧ x <:+ y) (o : List Int) (ho : o = turnedF (circF R).reverse) :
    1 < o.length ∧ ∀ i (hi : i < o.length), aheadF B o[i] (o[(i + 1) % o.length]'(Nat.mod_lt _ (by omega))) = true := by
  subst ho
  have hC := circF_ok hR (by omega)
  generalize circF R = c at *
  obtain ⟨m, hm, hmin⟩ := min_exists hC.pos
  rw [circ_eq hC.nd hm hmin]
  have hlen : (outF c m).length = c.length := by simp [outF]
  have hget : ∀ i (hi : i < c.length), ∃ j, ∃ hj : j < c.length, j = (if i ≤ m then m - i else m + c.length - i) ∧ (outF c m)[i]'(by omega) = c[j] := by
    intro i hi
    refine ⟨_, ?_, rfl, ?_⟩
    · split <;> omega
    · simp only [outF, List.getElem_map, List.getElem_range]
      rw [List.getD_eq_getElem?_getD, List.getElem?_eq_getElem (Nat.mod_lt _ (by omega)), Option.getD_some]
      congr 1
      exact modw hm hi
  have hstep : ∀ i (hi : i < c.length), ∃ x ∈ R, headI x = (outF c m)[i]'(by omega) ∧ (outF c m)[(i + 1) % c.length]'(by rw [hlen]; exact Nat.mod_lt _ (by omega)) ∈ x.tail := by
    intro i hi
    obtain ⟨j, hj, ej, e1⟩ := hget i hi
    have hi2 : (i + 1) % c.length < c.length := Nat.mod_lt _ (by omega)
    obtain ⟨j2, hj2, ej2, e2⟩ := hget _ hi2
    have hji : (j2 + 1) % c.length = j := by
      by_cases e : i + 1 < c.length
      · rw [Nat.mod_eq_of_lt e] at ej2
        by_cases e3 : j2 + 1 < c.length
        · rw [Nat.mod_eq_of_lt e3, ej]; split at ej2 <;> split <;> omega
        · have : j2 + 1 = c.length := by omega
          rw [this, Nat.mod_self, ej]; split at ej2 <;> split <;> omega
      · have e4 : i + 1 = c.length := by omega
        rw [e4, Nat.mod_self, if_pos (Nat.zero_le _)] at ej2
        by_cases e3 : j2 + 1 < c.length
        · rw [Nat.mod_eq_of_lt e3, ej]; split <;> omega
        · have : j2 + 1 = c.length := by omega
          rw [this, Nat.mod_self, ej]; split <;> omega
    have hs := hC.step j2 hj2
    obtain ⟨x, hx, h1, h2⟩ := hR.next (hC.mem _ (List.getElem_mem hj2))
    refine ⟨x, hx, ?_, ?_⟩
    · rw [h2, hs, e1]; congr 1
    · rw [e2]; exact h1
  refine ⟨?_, fun i hi => ?_⟩
  · rw [hlen]
    rcases Nat.lt_or_ge 1 c.length with h | h
    · exact h
    · have hc1 : c.length = 1 := by have := hC.pos; omega
      obtain ⟨x, hx, h1, h2⟩ := hstep 0 (by omega)
      have e : (outF c m)[(0 + 1) % c.length]'(by rw [hlen]; exact Nat.mod_lt _ (by omega)) = (outF c m)[0]'(by omega) := by congr 1; rw [hc1]
      rw [e, ← h1] at h2
      have h3 := hR.nd x hx
      rw [eq_cons_headI (hR.ne x hx)] at h3
      exact absurd h2 (List.nodup_cons.1 h3).1
  · have hi' : i < c.length := by omega
    obtain ⟨x, hx, h1, h2⟩ := hstep i hi'
    obtain ⟨y, hy, hxy⟩ := hsuf x hx
    have := aheadF_of hy hxy (hR.ne x hx) h2
    rw [h1] at this
    simpa only [hlen] using this

theorem blame_law {B : List (List Int)} (h : (blameF B).2.1 = 0) : 1 < (blameF B).1.length ∧ ∀ i (hi : i < (blameF B).1.length), aheadF B (blameF B).1[i] ((blameF B).1[(i + 1) % (blameF B).1.length]'(Nat.mod_lt _ (by omega))) = true := by
  by_cases h0 : (chkF B).1 = 0
  · by_cases h1 : (mergedF B).2.length = 0
    · unfold blameF at h; rw [if_neg (by simpa using h0), if_pos h1] at h; simp at h
    · obtain ⟨hR, _, hsuf⟩ := rest_ok h0
      exact circ_law hR (by omega) hsuf (blameF B).1 (by unfold blameF; rw [if_neg (by simpa using h0), if_neg h1])
  · unfold blameF at h; rw [if_pos h0] at h; exact absurd h h0
end Go.Proofs.Ytbickehhnkhabaa
