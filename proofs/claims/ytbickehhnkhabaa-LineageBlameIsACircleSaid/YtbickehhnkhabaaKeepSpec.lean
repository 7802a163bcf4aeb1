/- Plain laws of the merge of linearizations: what is merged without a rest keeps the order of every list. Nothing here speaks of the program. -/
import Derived.Test.YtbickehhnkhabaaLinSpec2
namespace Go.Proofs.Ytbickehhnkhabaa

theorem mergeF_acc (k : Nat) : ∀ (out : List Int) (B : List (List Int)), mergeF k out B = (out ++ (mergeF k [] B).1, (mergeF k [] B).2) := by
  induction k with
  | zero => intro out B; simp [mergeF]
  | succ k ih =>
    intro out B
    cases h : cand B B with
    | none => rw [mergeF_none h, mergeF_none h]; simp
    | some n =>
      rw [mergeF_some h, mergeF_some h, ih (out ++ [n]), ih ([] ++ [n])]
      simp

theorem blocked_iff (B : List (List Int)) (n : Int) : blocked B n = true ↔ ∃ x ∈ B, n ∈ x.tail := by
  unfold blocked
  rw [List.any_eq_true]
  constructor
  · rintro ⟨x, hx, h⟩; rw [hasI_iff] at h; exact ⟨x, hx, by simpa using h⟩
  · rintro ⟨x, hx, h⟩; exact ⟨x, hx, by rw [hasI_iff]; simpa using h⟩

theorem cand_some {B R : List (List Int)} {n : Int} (h : cand B R = some n) : blocked B n = false := by
  induction R with
  | nil => simp [cand] at h
  | cons x R ih =>
    unfold cand at h
    split at h
    · exact ih h
    · rename_i hb
      simp at h
      subst h
      simpa using hb

theorem eq_cons_headI {x : List Int} (h : x ≠ []) : x = headI x :: x.tail := by
  cases x with
  | nil => exact absurd rfl h
  | cons a x => rfl

theorem mem_strip {n : Int} {B : List (List Int)} {y : List Int} (h : y ∈ strip n B) : y ≠ [] ∧ ∃ x ∈ B, y = beh n x := by
  unfold strip ne at h
  rw [List.mem_filter] at h
  obtain ⟨h1, h2⟩ := h
  obtain ⟨x, hx, rfl⟩ := List.mem_map.1 h1
  exact ⟨by intro e; rw [e] at h2; simp at h2, x, hx, rfl⟩

theorem strip_mem {n : Int} {B : List (List Int)} {x : List Int} (hx : x ∈ B) (h : beh n x ≠ []) : beh n x ∈ strip n B := by
  unfold strip ne
  rw [List.mem_filter]
  refine ⟨List.mem_map.2 ⟨x, hx, rfl⟩, ?_⟩
  cases h' : beh n x with
  | nil => exact absurd h' h
  | cons a y => rfl

theorem merge_law (k : Nat) : ∀ (B : List (List Int)) (M : List Int), (∀ x ∈ B, x ≠ [] ∧ x.Nodup) → mergeF k [] B = (M, []) →
    (∀ x ∈ B, x.Sublist M) ∧ M.Nodup ∧ ∀ n, n ∈ M ↔ ∃ x ∈ B, n ∈ x := by
  induction k with
  | zero =>
    intro B M _ h
    simp [mergeF] at h
    obtain ⟨rfl, rfl⟩ := h
    simp
  | succ k ih =>
    intro B M hB h
    cases hc : cand B B with
    | none =>
      rw [mergeF_none hc] at h
      simp at h
      obtain ⟨rfl, rfl⟩ := h
      simp
    | some n =>
      rw [mergeF_some hc, mergeF_acc] at h
      simp only [List.nil_append, Prod.mk.injEq] at h
      obtain ⟨hM, hrest⟩ := h
      have hst : ∀ x ∈ strip n B, x ≠ [] ∧ x.Nodup := by
        intro y hy
        obtain ⟨h1, x, hx, rfl⟩ := mem_strip hy
        refine ⟨h1, ?_⟩
        have := (hB x hx).2
        unfold beh
        split
        · cases x with
          | nil => simp
          | cons a x => exact (List.nodup_cons.1 this).2
        · exact this
      obtain ⟨h1, h2, h3⟩ := ih (strip n B) (mergeF k [] (strip n B)).1 hst (by rw [← hrest])
      generalize (mergeF k [] (strip n B)).1 = M' at *
      subst hM
      have hnb := cand_some hc
      have hnot : ∀ x ∈ B, n ∉ x.tail := fun x hx hn => by
        have := (blocked_iff B n).2 ⟨x, hx, hn⟩
        rw [hnb] at this; cases this
      have hnM : n ∉ M' := by
        intro hn
        obtain ⟨y, hy, hny⟩ := (h3 n).1 hn
        obtain ⟨_, x, hx, rfl⟩ := mem_strip hy
        unfold beh at hny
        split at hny
        · exact hnot x hx hny
        · rename_i hne
          rw [eq_cons_headI (hB x hx).1] at hny
          rcases List.mem_cons.1 hny with e | e
          · subst e; simp at hne
          · exact hnot x hx e
      refine ⟨fun x hx => ?_, ?_, fun m => ?_⟩
      · have hxe := eq_cons_headI (hB x hx).1
        by_cases hh : headI x = n
        · have hb : beh n x = x.tail := by unfold beh; simp [hh]
          rw [hxe, hh]
          refine List.Sublist.cons_cons n ?_
          by_cases ht : x.tail = []
          · rw [ht]; exact List.nil_sublist _
          · rw [← hb]; exact h1 _ (strip_mem hx (by rw [hb]; exact ht))
        · have hb : beh n x = x := by unfold beh; simp [hh]
          have := h1 _ (strip_mem hx (by rw [hb]; exact (hB x hx).1))
          rw [hb] at this
          exact this.cons n
      · exact List.nodup_cons.2 ⟨hnM, h2⟩
      · obtain ⟨x0, hx0, hh0⟩ := cand_mem hc
        constructor
        · intro hm
          rcases List.mem_cons.1 hm with rfl | hm
          · exact ⟨x0, hx0, by rw [eq_cons_headI (hB x0 hx0).1, hh0]; simp⟩
          · obtain ⟨y, hy, hmy⟩ := (h3 m).1 hm
            obtain ⟨_, x, hx, rfl⟩ := mem_strip hy
            refine ⟨x, hx, ?_⟩
            unfold beh at hmy
            split at hmy
            · exact List.mem_of_mem_tail hmy
            · exact hmy
        · rintro ⟨x, hx, hmx⟩
          by_cases hmn : m = n
          · subst hmn; simp
          · refine List.mem_cons_of_mem _ ((h3 m).2 ?_)
            by_cases hh : headI x = n
            · have hb : beh n x = x.tail := by unfold beh; simp [hh]
              have hmt : m ∈ x.tail := by
                rw [eq_cons_headI (hB x hx).1, hh] at hmx
                rcases List.mem_cons.1 hmx with e | e
                · exact absurd e hmn
                · exact e
              exact ⟨_, strip_mem hx (by rw [hb]; intro e; rw [e] at hmt; cases hmt), by rw [hb]; exact hmt⟩
            · have hb : beh n x = x := by unfold beh; simp [hh]
              exact ⟨_, strip_mem hx (by rw [hb]; exact (hB x hx).1), by rw [hb]; exact hmx⟩

theorem idxFrom_shift (x : Int) (l : List Int) (k : Nat) (h : x ∈ l) : idxFrom x l (k + 1) = idxFrom x l k + 1 := by
  induction l generalizing k with
  | nil => cases h
  | cons y l ih =>
    unfold idxFrom
    by_cases e : x = y
    · subst e; simp
    · have e' : (x == y) = false := by simpa using e
      rw [e']
      simp only [Bool.false_eq_true, if_false]
      exact ih (k + 1) ((List.mem_cons.1 h).resolve_left e)

theorem before_of_sublist {a b : Int} {M : List Int} (h : [a, b].Sublist M) (hn : M.Nodup) : before M a b = true := by
  induction M with
  | nil => simp at h
  | cons m M ih =>
    obtain ⟨hm, hM⟩ := List.nodup_cons.1 hn
    rcases List.sublist_cons_iff.1 h with h' | ⟨r, hr, h'⟩
    · have hb := ih h' hM
      have ha : a ∈ M := h'.subset (by simp)
      have hbM : b ∈ M := h'.subset (by simp)
      have e1 : (a == m) = false := by simp; intro e; subst e; exact hm ha
      have e2 : (b == m) = false := by simp; intro e; subst e; exact hm hbM
      unfold before at hb ⊢
      have i1 : idxFrom a (m :: M) 0 = idxFrom a M 0 + 1 := by rw [idxFrom, e1]; simp only [Bool.false_eq_true, if_false]; exact idxFrom_shift a M 0 ha
      have i2 : idxFrom b (m :: M) 0 = idxFrom b M 0 + 1 := by rw [idxFrom, e2]; simp only [Bool.false_eq_true, if_false]; exact idxFrom_shift b M 0 hbM
      rw [i1, i2]
      simp at hb ⊢
      omega
    · simp at hr
      obtain ⟨rfl, rfl⟩ := hr
      have hbM : b ∈ M := h'.subset (by simp)
      have e2 : (b == a) = false := by simp; intro e; subst e; exact hm hbM
      have i1 : idxFrom a (a :: M) 0 = 0 := by rw [idxFrom]; simp
      have i2 : idxFrom b (a :: M) 0 = idxFrom b M 0 + 1 := by rw [idxFrom, e2]; simp only [Bool.false_eq_true, if_false]; exact idxFrom_shift b M 0 hbM
      have i3 := (idxFrom_nonneg b M 0).2 hbM
      unfold before
      rw [i1, i2]
      simp; omega

theorem pair_sublist {l : List Int} {i : Nat} (h : i + 1 < l.length) : [l[i], l[i + 1]].Sublist l := by
  have h1 : l.drop i = l[i] :: l[i + 1] :: l.drop (i + 2) := by
    rw [List.drop_eq_getElem_cons (by omega), List.drop_eq_getElem_cons h]
  have h2 : [l[i], l[i + 1]].Sublist (l.drop i) := by rw [h1]; exact ((List.nil_sublist _).cons_cons _).cons_cons _
  exact h2.trans (List.drop_sublist _ _)

theorem chkFrom_more (B : List (List Int)) : ∀ (R : List (List Int)) (k : Nat), R = B.drop k → (chkFrom B k R).1 = 0 → ∀ i (h : i < B.length), k ≤ i → negI B[i] = false ∧ dupI B[i] = false ∧ headsHave (B.take i) (headI B[i]) = false
  | [], k, hR, _, i, h, hk => by
    have := congrArg List.length hR
    simp at this
    omega
  | l :: R, k, hR, hc, i, h, hk => by
    have hkl : k < B.length := by
      rcases Nat.lt_or_ge k B.length with h | h
      · exact h
      · rw [List.drop_eq_nil_of_le h] at hR; cases hR
    rw [List.drop_eq_getElem_cons hkl] at hR
    simp only [List.cons.injEq] at hR
    obtain ⟨rfl, hR⟩ := hR
    unfold chkFrom at hc
    split at hc
    · simp at hc
    · split at hc
      · simp at hc
      · split at hc
        · simp at hc
        · rename_i h3
          split at hc
          · simp at hc
          · rename_i h4
            by_cases e : i = k
            · subst e
              simp only [Bool.not_eq_true, Bool.or_eq_false_iff] at h3 h4
              exact ⟨h3, h4.1, h4.2⟩
            · exact chkFrom_more B R (k + 1) hR hc i h (by omega)

theorem chkF_more {B : List (List Int)} (h : (chkF B).1 = 0) : ∀ i (hi : i < B.length), negI B[i] = false ∧ dupI B[i] = false ∧ headsHave (B.take i) (headI B[i]) = false := by
  intro i hi
  unfold chkF at h
  split at h
  · simp at h
  · exact chkFrom_more B B 0 (by simp) h i hi (Nat.zero_le _)

theorem chkF_nodup {B : List (List Int)} (h : (chkF B).1 = 0) : ∀ y ∈ B, y.Nodup := by
  intro y hy
  obtain ⟨i, hi, rfl⟩ := List.getElem_of_mem hy
  have := (chkF_more h i hi).2.1
  unfold dupI at this
  simpa using this

theorem chkF_heads {B : List (List Int)} (h : (chkF B).1 = 0) : (B.map headI).Nodup := by
  have hall : ∀ k, k ≤ B.length → ((B.take k).map headI).Nodup := by
    intro k
    induction k with
    | zero => intro _; simp
    | succ k ih =>
      intro hk
      rw [List.take_succ_eq_append_getElem (by omega), List.map_append]
      have h1 := (chkF_more h k (by omega)).2.2
      rw [← headsHave_has, hasI_iff] at h1
      have h2 : headI B[k] ∉ (B.take k).map headI := by simpa using h1
      rw [List.nodup_append]
      refine ⟨ih (by omega), by simp, fun y hy z hz => ?_⟩
      simp at hz
      subst hz
      intro e
      rw [e] at hy
      exact h2 hy
  have := hall B.length (Nat.le_refl _)
  rwa [List.take_length] at this

theorem orderF_ok {B : List (List Int)} (h : (orderF B).2.1 = 0) : (chkF B).1 = 0 ∧ mergedF B = ((orderF B).1, []) ∧ (orderF B).1.length < 40 ∧ (orderF B).2.2 = 0 := by
  unfold orderF at h ⊢
  split at h
  · rename_i h0; exact absurd h h0
  · rename_i h0
    rw [if_neg h0]
    split at h
    · simp at h
    · rename_i h1
      rw [if_neg h1]
      split at h
      · simp at h
      · rename_i h2
        rw [if_neg h2]
        refine ⟨by simpa using h0, ?_, by simp; omega, rfl⟩
        have : (mergedF B).2 = [] := List.eq_nil_of_length_eq_zero (by omega)
        exact Prod.ext rfl this

/-- What a linearization keeps. -/
theorem orderF_law {B : List (List Int)} (h : (orderF B).2.1 = 0) :
    (∀ x ∈ B, x.Sublist (orderF B).1) ∧ (B.map headI).Sublist (orderF B).1 ∧ (orderF B).1.Nodup ∧ ∀ n, n ∈ (orderF B).1 ↔ ∃ x ∈ B, n ∈ x := by
  obtain ⟨h1, h2, _, _⟩ := orderF_ok h
  obtain ⟨_, h3⟩ := chkF_ok h1
  unfold mergedF at h2
  have hne : ∀ x ∈ ne (B ++ [B.map headI]), x ≠ [] ∧ x.Nodup := by
    intro x hx
    refine ⟨ne_mem _ x hx, ?_⟩
    unfold ne at hx
    rw [List.mem_filter] at hx
    rcases List.mem_append.1 hx.1 with h | h
    · exact chkF_nodup h1 x h
    · simp at h; subst h; exact chkF_heads h1
  obtain ⟨g1, g2, g3⟩ := merge_law _ _ _ hne h2
  have hmem : ∀ x ∈ B, x ∈ ne (B ++ [B.map headI]) := by
    intro x hx
    unfold ne
    rw [List.mem_filter]
    refine ⟨by simp [hx], ?_⟩
    have := (h3 x hx).1
    cases x with
    | nil => exact absurd rfl this
    | cons a x => rfl
  refine ⟨fun x hx => g1 x (hmem x hx), ?_, g2, fun n => ?_⟩
  · cases hB : B.map headI with
    | nil => exact List.nil_sublist _
    | cons a t =>
      rw [← hB]
      refine g1 _ ?_
      unfold ne
      rw [List.mem_filter]
      exact ⟨by simp, by rw [hB]; rfl⟩
  · rw [g3 n]
    constructor
    · rintro ⟨x, hx, hn⟩
      unfold ne at hx
      rw [List.mem_filter] at hx
      rcases List.mem_append.1 hx.1 with h | h
      · exact ⟨x, h, hn⟩
      · simp at h
        subst h
        obtain ⟨y, hy, rfl⟩ := List.mem_map.1 hn
        exact ⟨y, hy, by rw [eq_cons_headI (h3 y hy).1]; simp [headI]⟩
    · rintro ⟨x, hx, hn⟩
      exact ⟨x, hmem x hx, hn⟩

theorem merge_one (k : Nat) : ∀ (out t : List Int), t.length < k → t.Nodup → mergeF k out (ne [t]) = (out ++ t, []) := by
  induction k with
  | zero => intro out t h; omega
  | succ k ih =>
    intro out t h hn
    cases t with
    | nil => rw [show ne [[]] = ([] : List (List Int)) from rfl, mergeF_none (show cand [] [] = none from rfl)]; simp
    | cons a t =>
      obtain ⟨ha, ht⟩ := List.nodup_cons.1 hn
      have hc : cand (ne [a :: t]) (ne [a :: t]) = some a := by
        rw [show ne [a :: t] = [a :: t] from rfl]
        unfold cand
        have : blocked [a :: t] (headI (a :: t)) = false := by
          cases hb : blocked [a :: t] (headI (a :: t)) with
          | false => rfl
          | true =>
            obtain ⟨x, hx, hm⟩ := (blocked_iff _ _).1 hb
            simp at hx
            subst hx
            exact absurd hm ha
        rw [this]; rfl
      rw [mergeF_some hc]
      have hs : strip a (ne [a :: t]) = ne [t] := by
        rw [show ne [a :: t] = [a :: t] from rfl]
        unfold strip
        have : beh a (a :: t) = t := by unfold beh; simp [headI]
        simp [this]
      rw [hs, ih (out ++ [a]) t (by simp at h; omega) ht]
      simp

/-- Linearizing a linearization as the only base changes nothing. -/
theorem orderF_again {L : List Int} (hne : L ≠ []) (hn : L.Nodup) (h40 : L.length < 40) (h0 : ∀ x ∈ L, 0 ≤ x) : orderF [L] = (L, 0, 0) := by
  have hc : chkF [L] = (0, 0) := by
    unfold chkF
    rw [if_neg (by simp)]
    unfold chkFrom
    have hl : 0 < L.length := List.length_pos_iff.2 hne
    rw [if_neg (by omega), if_neg (by omega)]
    have h1 : negI L = false := by
      unfold negI
      rw [List.any_eq_false]
      intro x hx
      have := h0 x hx
      simp; omega
    have h2 : dupI L = false := by unfold dupI; simp [hn]
    rw [h1, h2]
    simp [headsHave, chkFrom]
  have hm : mergedF [L] = (L, []) := by
    unfold mergedF
    cases L with
    | nil => exact absurd rfl hne
    | cons a t =>
      obtain ⟨ha, ht⟩ := List.nodup_cons.1 hn
      rw [show ([a :: t] ++ [[a :: t].map headI]) = [a :: t, [a]] from rfl, show ne [a :: t, [a]] = [a :: t, [a]] from rfl]
      have hcd : cand [a :: t, [a]] [a :: t, [a]] = some a := by
        unfold cand
        have : blocked [a :: t, [a]] (headI (a :: t)) = false := by
          cases hb : blocked [a :: t, [a]] (headI (a :: t)) with
          | false => rfl
          | true =>
            obtain ⟨x, hx, hm⟩ := (blocked_iff _ _).1 hb
            simp at hx
            rcases hx with rfl | rfl
            · exact absurd hm ha
            · simp at hm
        rw [this]; rfl
      rw [mergeF_some hcd]
      have hs : strip a [a :: t, [a]] = ne [t] := by
        unfold strip
        have e1 : beh a (a :: t) = t := by unfold beh; simp [headI]
        have e2 : beh a [a] = [] := by unfold beh; simp [headI]
        simp [e1, e2, ne, List.filter_cons]
      rw [hs, merge_one _ _ _ (by simp [total]; omega) ht]
      simp
  unfold orderF
  rw [hc, hm]
  simp
  omega

/-! All classes of the bases, each once. -/
def addOne (acc : List Int) (n : Int) : List Int := if hasI acc n then acc else acc ++ [n]
def addAll (acc : List Int) (b : List Int) : List Int := b.foldl addOne acc
def allF (B : List (List Int)) : List Int := B.foldl addAll []

theorem addOne_nodup {acc : List Int} (h : acc.Nodup) (n : Int) : (addOne acc n).Nodup ∧ ∀ m, m ∈ addOne acc n ↔ m ∈ acc ∨ m = n := by
  unfold addOne
  rw [hasI_iff]
  by_cases hn : n ∈ acc
  · simp only [hn, decide_true, if_true]
    refine ⟨h, fun m => ⟨.inl, ?_⟩⟩
    rintro (h | rfl)
    · exact h
    · exact hn
  · simp only [hn, decide_false, Bool.false_eq_true, if_false]
    refine ⟨?_, fun m => by simp⟩
    rw [List.nodup_append]
    exact ⟨h, by simp, fun y hy z hz => by simp at hz; subst hz; intro e; subst e; exact hn hy⟩

theorem addAll_nodup (b : List Int) : ∀ (acc : List Int), acc.Nodup → (addAll acc b).Nodup ∧ ∀ m, m ∈ addAll acc b ↔ m ∈ acc ∨ m ∈ b := by
  induction b with
  | nil => intro acc h; simp [addAll, h]
  | cons n b ih =>
    intro acc h
    obtain ⟨h1, h2⟩ := addOne_nodup h n
    obtain ⟨h3, h4⟩ := ih _ h1
    refine ⟨h3, fun m => ?_⟩
    show m ∈ addAll (addOne acc n) b ↔ _
    rw [h4 m, h2 m, List.mem_cons]
    constructor
    · rintro ((h | h) | h)
      · exact .inl h
      · exact .inr (.inl h)
      · exact .inr (.inr h)
    · rintro (h | h | h)
      · exact .inl (.inl h)
      · exact .inl (.inr h)
      · exact .inr h

theorem allF_nodup (B : List (List Int)) : (allF B).Nodup ∧ ∀ m, m ∈ allF B ↔ ∃ x ∈ B, m ∈ x := by
  have hall : ∀ (B : List (List Int)) (acc : List Int), acc.Nodup → (B.foldl addAll acc).Nodup ∧ ∀ m, m ∈ B.foldl addAll acc ↔ m ∈ acc ∨ ∃ x ∈ B, m ∈ x := by
    intro B
    induction B with
    | nil => intro acc h; simp [h]
    | cons b B ih =>
      intro acc h
      obtain ⟨h1, h2⟩ := addAll_nodup b acc h
      obtain ⟨h3, h4⟩ := ih _ h1
      refine ⟨h3, fun m => ?_⟩
      show m ∈ B.foldl addAll (addAll acc b) ↔ _
      rw [h4 m, h2 m]
      simp only [List.mem_cons, exists_eq_or_imp]
      constructor
      · rintro ((h | h) | h)
        · exact .inl h
        · exact .inr (.inl h)
        · exact .inr (.inr h)
      · rintro (h | h | h)
        · exact .inl (.inl h)
        · exact .inl (.inr h)
        · exact .inr h
  obtain ⟨h1, h2⟩ := hall B [] (by simp)
  exact ⟨h1, fun m => by rw [allF, h2 m]; simp⟩

theorem nodup_le {l : List Int} : ∀ {m : List Int}, l.Nodup → (∀ x ∈ l, x ∈ m) → l.length ≤ m.length := by
  induction l with
  | nil => intro m _ _; simp
  | cons a l ih =>
    intro m hn hs
    obtain ⟨ha, hl⟩ := List.nodup_cons.1 hn
    have ham : a ∈ m := hs a (by simp)
    have h1 := ih (m := m.erase a) hl (fun x hx => by
      have hxa : x ≠ a := fun e => ha (e ▸ hx)
      exact (List.mem_erase_of_ne hxa).2 (hs x (by simp [hx])))
    rw [List.length_erase_of_mem ham] at h1
    have : 0 < m.length := List.length_pos_of_mem ham
    simp; omega

theorem addOne_length (acc : List Int) (n : Int) : (addOne acc n).length ≤ acc.length + 1 := by unfold addOne; split <;> simp
theorem addAll_take (acc b : List Int) (i : Nat) (h : i < b.length) : addAll acc (b.take (i + 1)) = addOne (addAll acc (b.take i)) b[i] := by
  unfold addAll
  rw [List.take_succ_eq_append_getElem h, List.foldl_append]; rfl
theorem allF_take (B : List (List Int)) (k : Nat) (h : k < B.length) : allF (B.take (k + 1)) = addAll (allF (B.take k)) B[k] := by
  unfold allF
  rw [List.take_succ_eq_append_getElem h, List.foldl_append]; rfl

theorem keep_pairs {B : List (List Int)} (h : (orderF B).2.1 = 0) (y : List Int) (hy : y ∈ B) (i : Nat) (hi : i + 1 < y.length) : before (orderF B).1 y[i] y[i + 1] = true := by
  obtain ⟨h1, _, h3, _⟩ := orderF_law h
  exact before_of_sublist ((pair_sublist hi).trans (h1 _ hy)) h3

theorem keep_heads {B : List (List Int)} (h : (orderF B).2.1 = 0) (k : Nat) (hk : k + 1 < B.length) : before (orderF B).1 (headI B[k]) (headI B[k + 1]) = true := by
  obtain ⟨_, h2, h3, _⟩ := orderF_law h
  have hp := pair_sublist (l := B.map headI) (i := k) (by simpa using hk)
  simp only [List.getElem_map] at hp
  exact before_of_sublist (hp.trans h2) h3

theorem keep_all {B : List (List Int)} (h : (orderF B).2.1 = 0) : (∀ n ∈ (orderF B).1, hasI (allF B) n = true) ∧ (orderF B).1.length = (allF B).length := by
  obtain ⟨_, _, h3, h4⟩ := orderF_law h
  obtain ⟨g1, g2⟩ := allF_nodup B
  refine ⟨fun n hn => ?_, ?_⟩
  · rw [hasI_iff]; simpa using (g2 n).2 ((h4 n).1 hn)
  · exact Nat.le_antisymm (nodup_le h3 fun n hn => (g2 n).2 ((h4 n).1 hn)) (nodup_le g1 fun n hn => (h4 n).2 ((g2 n).1 hn))

theorem keep_again {B : List (List Int)} (h : (orderF B).2.1 = 0) (hne : (orderF B).1 ≠ []) : orderF [(orderF B).1] = ((orderF B).1, 0, 0) := by
  obtain ⟨h1, _, h3, h4⟩ := orderF_law h
  obtain ⟨hc, _, h40, _⟩ := orderF_ok h
  refine orderF_again hne h3 h40 fun n hn => ?_
  obtain ⟨x, hx, hnx⟩ := (h4 n).1 hn
  obtain ⟨i, hi, rfl⟩ := List.getElem_of_mem hx
  have := (chkF_more hc i hi).1
  unfold negI at this
  rw [List.any_eq_false] at this
  have := this n hnx
  simp at this
  exact this
end Go.Proofs.Ytbickehhnkhabaa
