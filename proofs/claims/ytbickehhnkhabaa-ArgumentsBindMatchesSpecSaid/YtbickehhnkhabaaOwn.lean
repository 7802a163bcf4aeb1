/- Memory that a call owns: rows, how they are read, cut and cleared. Nothing here speaks of the program. -/
import Derived.Test.YtbickehhnkhabaaBase
import Derived.Lib.SliceRun
import Derived.Laws.AppendOwnNone
namespace Go.Proofs.Ytbickehhnkhabaa
open Go.RowKit

theorem maxLen_eq' : maxLen = 9223372036854775807 := by decide

/-- What is owned reads as a row. -/
theorem Row_of_own {w : World} {base : Nat} {e : TypeId} {v : Value} {cs : List Value} (h : w.ownsRow base e 1 v cs.length cs) : Row w v cs := by
  obtain ⟨_, h⟩ := h
  rcases h with ⟨rfl, h0⟩ | ⟨g, cap, cur, rfl, hb, hg, hn, hm, hs, ht⟩
  · exact ⟨none, 0, by rw [h0], by omega, by omega, fun i hi => by omega⟩
  · rw [maxLen_eq'] at hm
    refine ⟨some ⟨g, 0, none⟩, cap, rfl, hn, hm, fun i hi => ⟨g, 0, rfl, ?_⟩⟩
    have : cur.toList.take cs.length = cs := by simpa using ht
    have h1 : cur[i]? = some cs[i] := by
      have h2 : (cur.toList.take cs.length)[i]? = cs[i]? := by rw [this]
      rw [List.getElem?_take, if_pos hi] at h2
      simpa [hi] using h2
    simp [World.cell?, hg, h1]

theorem Ints_of_own {w : World} {base : Nat} {e : TypeId} {v : Value} {l : List Int} (h : w.ownsRow base e 1 v l.length (l.map (Value.int .i64))) : Ints w v l := by
  have h' : w.ownsRow base e 1 v (l.map (Value.int .i64)).length (l.map (Value.int .i64)) := by simpa using h
  obtain ⟨a, cap, rfl, hl, hm, hc⟩ := Row_of_own h'
  refine ⟨a, cap, by simp, by simpa using hl, hm, fun i hi => ?_⟩
  obtain ⟨b, off, rfl, hcell⟩ := hc i (by simpa using hi)
  exact ⟨b, off, rfl, by simpa using hcell⟩

/-- A reading stays while another block is written. -/
theorem RowOf.grown {α : Type} {f : α → Value} {w w' : World} {v : Value} {l : List α} {row : Option Nat} (h : RowOf f w v l) (hg : w.grownBy w' row) (hne : v.ownBlock ≠ row ∨ row = none) : RowOf f w' v l := by
  obtain ⟨a, cap, rfl, hl, hm, hc⟩ := h
  refine ⟨a, cap, rfl, hl, hm, fun i hi => ?_⟩
  obtain ⟨b, off, rfl, hcell⟩ := hc i hi
  refine ⟨b, off, rfl, hg.cell hcell ?_⟩
  rcases hne with h | h
  · simpa [Value.ownBlock] using h
  · rw [h]; simp

theorem grown_refl (w : World) (row : Option Nat) : w.grownBy w row := ⟨rfl, rfl, rfl, Nat.le_refl _, fun _ _ _ => rfl⟩
theorem grown_trans {w w1 w2 : World} {row : Option Nat} (h1 : w.grownBy w1 row) (h2 : w1.grownBy w2 row) : w.grownBy w2 row :=
  ⟨h2.os.trans h1.os, h2.tape.trans h1.tape, h2.output.trans h1.output, Nat.le_trans h1.size h2.size, fun k hk hne => (h2.block k (Nat.lt_of_lt_of_le hk h1.size) hne).trans (h1.block k hk hne)⟩
theorem grown_of_below {w w1 : World} (h : Below w.heap.size w w1) (row : Option Nat) : w.grownBy w1 row :=
  ⟨h.os, h.tape, h.output, h.size, fun k hk _ => h.block k hk⟩
/-- A block beyond w's own may have been written: for w nothing turned. -/
theorem grown_new {w w1 w2 : World} {row row' : Option Nat} (h1 : w.grownBy w1 row) (h2 : w1.grownBy w2 row') (hn : ∀ k, row' = some k → w.heap.size ≤ k ∨ row = some k) : w.grownBy w2 row :=
  ⟨h2.os.trans h1.os, h2.tape.trans h1.tape, h2.output.trans h1.output, Nat.le_trans h1.size h2.size, fun k hk hne => by
    refine (h2.block k (Nat.lt_of_lt_of_le hk h1.size) (fun e => ?_)).trans (h1.block k hk hne)
    rcases hn k e.symm with h | h
    · omega
    · exact hne h.symm⟩
theorem below_of_grown {w w1 : World} {row : Option Nat} {B : Nat} (h : w.grownBy w1 row) (hB : B ≤ w.heap.size) (hr : ∀ k, row = some k → B ≤ k) : Below B w w1 :=
  (Below.refl B w).grown h hB hr

theorem own_shrink {w : World} {base : Nat} {e : TypeId} {g n cap : Nat} {xs : List Value} (h : w.ownsRow base e 1 (.slice (some ⟨g, 0, none⟩) n cap) n xs) {i : Nat} (hi : i ≤ n) :
    w.ownsRow base e 1 (.slice (some ⟨g, 0, none⟩) i cap) i (xs.take i) := by
  obtain ⟨hl, h⟩ := h
  rcases h with ⟨h', _⟩ | ⟨g', cap', cur, h', hb, hg, hn, hm, hs, ht⟩
  · simp at h'
  · simp only [Value.slice.injEq, Option.some.injEq, Addr.mk.injEq, and_true, true_and] at h'
    obtain ⟨rfl, rfl⟩ := h'
    refine ⟨by simp; omega, .inr ⟨g, cap, cur, rfl, hb, hg, by omega, hm, hs, ?_⟩⟩
    rw [← ht, List.take_take]; congr 1; omega

theorem own_setCells {base : Nat} {e : TypeId} {g i cap : Nat} {xs : List Value} : ∀ (vs : List Value) (o : Nat) (w : World), w.ownsRow base e 1 (.slice (some ⟨g, 0, none⟩) i cap) i xs → i ≤ o →
    (w.setCells g o vs).ownsRow base e 1 (.slice (some ⟨g, 0, none⟩) i cap) i xs ∧ w.grownBy (w.setCells g o vs) (some g)
  | [], o, w, h, _ => ⟨h, grown_refl _ _⟩
  | v :: vs, o, w, h, ho => by
    have h1 := h.stored o v
    have hx : xs.set o v = xs := List.set_eq_of_length_le (by have := h.1; omega)
    rw [hx] at h1
    have h2 := own_setCells vs (o + 1) _ h1.1 (by omega)
    exact ⟨h2.1, grown_trans h1.2 h2.2⟩

theorem own_isSlice {w : World} {b : Nat} {e : TypeId} {z : Nat} {v : Value} {n : Nat} {xs : List Value} (h : w.ownsRow b e z v n xs) : ∃ a c, v = .slice a n c := by
  rcases h.2 with ⟨rfl, rfl⟩ | ⟨g, cap, cur, rfl, _⟩
  · exact ⟨_, _, rfl⟩
  · exact ⟨_, _, rfl⟩

theorem own_form {w : World} {b : Nat} {e : TypeId} {z : Nat} {v : Value} {n : Nat} {xs : List Value} (h : w.ownsRow b e z v n xs) (h0 : 0 < n) : ∃ g c, v = .slice (some ⟨g, 0, none⟩) n c ∧ b ≤ g := by
  rcases h.2 with ⟨_, rfl⟩ | ⟨g, cap, cur, rfl, hb, _⟩
  · omega
  · exact ⟨_, _, rfl, hb⟩

theorem own_apart {w : World} {b b' : Nat} {e e' : TypeId} {z z' : Nat} {v v' : Value} {n n' : Nat} {xs xs' : List Value} (h : w.ownsRow b e z v n xs) (h' : w.ownsRow b' e' z' v' n' xs') (hne : e ≠ e') :
    v.ownBlock = none ∨ v.ownBlock ≠ v'.ownBlock := by
  rcases h.2 with ⟨rfl, _⟩ | ⟨g, cap, cur, rfl, _, hg, _⟩
  · exact .inl rfl
  · rcases h'.2 with ⟨rfl, _⟩ | ⟨g', cap', cur', rfl, _, hg', _⟩
    · exact .inr (by simp [Value.ownBlock])
    · refine .inr (fun hh => ?_)
      simp only [Value.ownBlock, Option.some.injEq] at hh
      subst hh
      rw [hg] at hg'
      simp at hg'
      exact hne hg'.2

theorem two_kept {W w' : World} {N N' : Nat} {e1 e2 : TypeId} {vL vH : Value} {n m : Nat} {xs ys : List Value} (hL : W.ownsRow N e1 1 vL n xs) (hH : W.ownsRow N' e2 1 vH m ys) (hne : e1 ≠ e2) (hgr : W.grownBy w' vH.ownBlock) :
    w'.ownsRow N e1 1 vL n xs := hL.kept hgr (own_apart hL hH hne)

theorem own_drew {w : World} {b : Nat} {e : TypeId} {z : Nat} {v : Value} {n : Nat} {xs : List Value} (h : w.ownsRow b e z v n xs) : w.drew.ownsRow b e z v n xs := h

theorem own_base {w : World} {b b' : Nat} {e : TypeId} {z : Nat} {v : Value} {n : Nat} {xs : List Value} (h : w.ownsRow b e z v n xs) (hb : b' ≤ b) : w.ownsRow b' e z v n xs := by
  refine ⟨h.1, ?_⟩
  rcases h.2 with ⟨rfl, h0⟩ | ⟨g, cap, cur, rfl, hg, h1⟩
  · exact .inl ⟨rfl, h0⟩
  · exact .inr ⟨g, cap, cur, rfl, Nat.le_trans hb hg, h1⟩

/-- Kept while a row of a later base is written. -/
theorem own_later {w w' : World} {b b' : Nat} {e e' : TypeId} {z z' : Nat} {v v' : Value} {n n' : Nat} {xs xs' : List Value} (h : w.ownsRow b e z v n xs) (h' : w.ownsRow b' e' z' v' n' xs') (hlt : ∀ k, v.ownBlock = some k → k < b') (hg : w.grownBy w' v'.ownBlock) : w'.ownsRow b e z v n xs := by
  refine h.kept hg ?_
  cases h0 : v.ownBlock with
  | none => exact .inl rfl
  | some k => exact .inr fun hh => by have := (h'.lt k hh.symm).1; have := hlt k h0; omega

theorem own_cast {w : World} {b : Nat} {e : TypeId} {z : Nat} {v : Value} {n n' : Nat} {xs xs' : List Value} (h : w.ownsRow b e z v n xs) (hn : n = n') (hx : xs = xs') : w.ownsRow b e z v n' xs' := by subst hn; subst hx; exact h

theorem own_below {w w' : World} {b : Nat} {e : TypeId} {z : Nat} {v : Value} {n : Nat} {xs : List Value} (h : w.ownsRow b e z v n xs) (hb : Below w.heap.size w w') : w'.ownsRow b e z v n xs :=
  h.kept (grown_of_below hb none) (by cases h0 : v.ownBlock <;> simp)

theorem RowOf.isSlice {α : Type} {f : α → Value} {w : World} {v : Value} {l : List α} (h : RowOf f w v l) : ∃ a n c, v = .slice a n c := by
  obtain ⟨a, cap, rfl, _⟩ := h; exact ⟨_, _, _, rfl⟩

theorem ownBlock_old {α : Type} {f : α → Value} {w : World} {v : Value} {l : List α} (h : RowOf f w v l) (hne : 0 < l.length) : ∀ k, v.ownBlock = some k → k < w.heap.size := by
  obtain ⟨a, cap, rfl, _, _, hc⟩ := h
  obtain ⟨b, off, rfl, hcell⟩ := hc 0 hne
  intro k hk
  simp [Value.ownBlock] at hk
  subst hk
  exact World.block_lt_of_cell? _ _ hcell

theorem firstFrom_spec (p : Nat → Bool) (n k : Nat) : (firstFrom p n k = -1 ∧ ∀ i, k ≤ i → i < n → p i = false) ∨ ∃ i, k ≤ i ∧ i < n ∧ firstFrom p n k = i ∧ p i = true ∧ ∀ j, k ≤ j → j < i → p j = false := by
  induction hd : n - k generalizing k with
  | zero => exact .inl ⟨firstFrom_end (by omega), fun i h1 h2 => by omega⟩
  | succ d ih =>
    by_cases hp : p k = true
    · exact .inr ⟨k, Nat.le_refl _, by omega, firstFrom_yes (by omega) hp, hp, fun j h1 h2 => by omega⟩
    · have hp' : p k = false := by simpa using hp
      rw [firstFrom_no (by omega) hp']
      rcases ih (k + 1) (by omega) with ⟨h1, h2⟩ | ⟨i, h1, h2, h3, h4, h5⟩
      · exact .inl ⟨h1, fun i hi hn => by
          by_cases e : i = k
          · subst e; exact hp'
          · exact h2 i (by omega) hn⟩
      · exact .inr ⟨i, by omega, h2, h3, h4, fun j hj hji => by
          by_cases e : j = k
          · subst e; exact hp'
          · exact h5 j (by omega) hji⟩
end Go.Proofs.Ytbickehhnkhabaa
