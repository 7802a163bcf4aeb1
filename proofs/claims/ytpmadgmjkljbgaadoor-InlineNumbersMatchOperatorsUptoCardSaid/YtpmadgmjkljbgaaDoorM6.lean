/- Part 6 of the proof. -/
import Derived.Test.YtpmadgmjkljbgaaDoorM4
import Derived.Test.YtpmadgmjkljbgaaDoorM5

/- Boxes that a call has laid, and what a store into one of them leaves alone. -/
namespace Go.Proofs.YtpmadgmjkljbgaaDoor
open Go.RowKit

/-- The world is w with more blocks, and these blocks stand. -/
def Bxs (l : List (Nat × Obj)) (w W : World) : Prop := Below w.heap.size w W ∧ ∀ x ∈ l, W.heap[x.1]? = some x.2
theorem Bxs.below {l : List (Nat × Obj)} {w W W' : World} (h : Bxs l w W) (hb : Below W.heap.size W W') : Bxs l w W' :=
  ⟨ext_trans h.1 hb, fun x hx => (hb.block _ (box_lt (h.2 x hx))).trans (h.2 x hx)⟩
theorem Bxs.drew {l : List (Nat × Obj)} {w W : World} (h : Bxs l w W) : Bxs l w W.drew := ⟨h.1.drew, h.2⟩
theorem alloc4 (w : World) (A B C D : Obj) : Below w.heap.size w ((((w.alloc A).alloc B).alloc C).alloc D) ∧ ((((w.alloc A).alloc B).alloc C).alloc D).heap[w.heap.size]? = some A ∧ ((((w.alloc A).alloc B).alloc C).alloc D).heap[w.heap.size + 1]? = some B ∧ ((((w.alloc A).alloc B).alloc C).alloc D).heap[w.heap.size + 1 + 1]? = some C ∧ ((((w.alloc A).alloc B).alloc C).alloc D).heap[w.heap.size + 1 + 1 + 1]? = some D := by
  obtain ⟨hb, h1, h2, h3⟩ := alloc3 w A B C
  have hs : (((w.alloc A).alloc B).alloc C).heap.size = w.heap.size + 1 + 1 + 1 := by simp
  refine ⟨ext_trans hb (ext_alloc _ D), box_alloc h1 D, box_alloc h2 D, box_alloc h3 D, ?_⟩
  have := heap_new (((w.alloc A).alloc B).alloc C) D
  rw [hs] at this
  exact this
/-- A store of an integer into its box. -/
theorem intStore {W : World} {N : Nat} {b : Bool} {a : Option Addr} {n c : Nat} {t : TypeId} (h : W.heap[N]? = some (.cells #[.bool b, .slice a n c] t (0, 0))) (b' : Bool) (v : Value) :
    ((W.setCell ⟨N, 0, none⟩ (.bool b')).setCell ⟨N, 1, none⟩ v).heap[N]? = some (.cells #[.bool b', v] t (0, 0)) ∧
    (∀ M o, M ≠ N → W.heap[M]? = some o → ((W.setCell ⟨N, 0, none⟩ (.bool b')).setCell ⟨N, 1, none⟩ v).heap[M]? = some o) ∧
    (∀ u x, NatAt W u x → NatAt ((W.setCell ⟨N, 0, none⟩ (.bool b')).setCell ⟨N, 1, none⟩ v) u x) ∧
    (∀ w B, B ≤ N → Below B w W → Below B w ((W.setCell ⟨N, 0, none⟩ (.bool b')).setCell ⟨N, 1, none⟩ v)) :=
  ⟨intBox_set h b' v, fun M o hne ho => boxes_keep ho hne (.bool b') v, fun u x hu => natAt_set h hu b' v, fun w B hB hb => (hb.setCell (p := ⟨N, 0, none⟩) hB (.bool b')).setCell (p := ⟨N, 1, none⟩) hB v⟩
/-- The box of an integer, whatever stands in it. -/
def IBox (t : TypeId) (W : World) (N : Nat) : Prop := ∃ b a n c, W.heap[N]? = some (.cells #[.bool b, .slice a n c] t (0, 0))
theorem IBox.below {t : TypeId} {W W' : World} {N : Nat} (h : IBox t W N) (hb : Below W.heap.size W W') : IBox t W' N := by
  obtain ⟨b, a, n, c, h⟩ := h
  exact ⟨b, a, n, c, (hb.block _ (box_lt h)).trans h⟩

/-- Cells without a number among them. -/
def NoInt (cs : List Value) : Prop := ∀ x ∈ cs, ∀ k d, x ≠ .int k d
theorem RowOf.other {α : Type} {f : α → Value} {W W' : World} {M : Nat} {old : List Value} {t : TypeId} {v : Value} {l : List α} (h : RowOf f W v l) (hM : W.heap[M]? = some (.cells old.toArray t (0, 0)))
    (hne : ∀ x ∈ old, ∀ y, x ≠ f y) (hk : ∀ k, k < W.heap.size → k ≠ M → W'.heap[k]? = W.heap[k]?) : RowOf f W' v l := by
  obtain ⟨a, cap, rfl, hl, hm, hc⟩ := h
  refine ⟨a, cap, rfl, hl, hm, fun i hi => ?_⟩
  obtain ⟨b, off, rfl, hcell⟩ := hc i hi
  refine ⟨b, off, rfl, ?_⟩
  have hb : b ≠ M := by
    rintro rfl
    rw [box_cell hM] at hcell
    have := List.mem_of_getElem? (show old[off + i]? = some _ by simpa using hcell)
    exact hne _ this _ rfl
  have := hk b (World.block_lt_of_cell? _ _ hcell) hb
  unfold World.cell? at hcell ⊢
  simp only at hcell ⊢
  rw [this]; exact hcell
theorem NatAt.other {W W' : World} {M : Nat} {old : List Value} {t : TypeId} {v : Value} {n : Nat} (h : NatAt W v n) (hM : W.heap[M]? = some (.cells old.toArray t (0, 0))) (hne : NoInt old) (hk : ∀ k, k < W.heap.size → k ≠ M → W'.heap[k]? = W.heap[k]?) : NatAt W' v n := by
  unfold NatAt at h ⊢
  exact RowOf.other h hM (fun x hx y => hne x hx _ _) hk

/-- What a box may hold: it stays where memory is made, and where another box is written. -/
structure GoodC (C : World → List Value → Prop) : Prop where
  below : ∀ {W W' : World} {cs : List Value}, C W cs → Below W.heap.size W W' → C W' cs
  other : ∀ {W W' : World} {M : Nat} {cs old : List Value} {t : TypeId}, C W cs → W.heap[M]? = some (.cells old.toArray t (0, 0)) → NoInt old → (∀ k, k < W.heap.size → k ≠ M → W'.heap[k]? = W.heap[k]?) → C W' cs

/-- The cells of an integer. -/
def IntC (z : Int) (W : World) (cs : List Value) : Prop := ∃ b nv k, cs = [.bool b, nv] ∧ NatAt W nv k ∧ ZI b k = z
theorem IntC.good (z : Int) : GoodC (IntC z) :=
  ⟨fun ⟨b, nv, k, h1, h2, h3⟩ hb => ⟨b, nv, k, h1, h2.below hb, h3⟩, fun ⟨b, nv, k, h1, h2, h3⟩ hM hn hk => ⟨b, nv, k, h1, h2.other hM hn hk, h3⟩⟩
/-- The cells of a ratio. -/
def RatC (z : Int) (d : Nat) (W : World) (cs : List Value) : Prop := ∃ b nv dv k, cs = [.bool b, nv, dv] ∧ NatAt W nv k ∧ NatAt W dv d ∧ ZI b k = z
theorem RatC.good (z : Int) (d : Nat) : GoodC (RatC z d) :=
  ⟨fun ⟨b, nv, dv, k, h1, h2, h3, h4⟩ hb => ⟨b, nv, dv, k, h1, h2.below hb, h3.below hb, h4⟩, fun ⟨b, nv, dv, k, h1, h2, h3, h4⟩ hM hn hk => ⟨b, nv, dv, k, h1, h2.other hM hn hk, h3.other hM hn hk, h4⟩⟩
theorem IntC.noInt {z : Int} {W : World} {cs : List Value} (h : IntC z W cs) : NoInt cs := by
  obtain ⟨b, nv, k, rfl, h2, _⟩ := h
  obtain ⟨a, c, rfl⟩ := h2.slice
  intro x hx k d
  simp only [List.mem_cons, List.not_mem_nil, or_false] at hx
  rcases hx with rfl | rfl <;> simp
theorem RatC.noInt {z : Int} {d : Nat} {W : World} {cs : List Value} (h : RatC z d W cs) : NoInt cs := by
  obtain ⟨b, nv, dv, k, rfl, h2, h3, _⟩ := h
  obtain ⟨a, c, rfl⟩ := h2.slice
  obtain ⟨a, c, rfl⟩ := h3.slice
  intro x hx k d
  simp only [List.mem_cons, List.not_mem_nil, or_false] at hx
  rcases hx with rfl | rfl | rfl <;> simp

/-- A box that a call has made: p points to it; where s says so its content has been laid. -/
def BoxC (t : TypeId) (z B : Nat) (C : World → List Value → Prop) (W : World) (s : Bool) (p : Value) : Prop :=
  ∃ M old, p = .pointer (some ⟨M, 0, none⟩) ∧ B ≤ M ∧ W.heap[M]? = some (.cells (List.toArray old) t (0, 0)) ∧ NoInt old ∧ old.length = z ∧ (s = true → C W old)
theorem BoxC.below {t : TypeId} {z B : Nat} {C : World → List Value → Prop} (hC : GoodC C) {W W' : World} {s : Bool} {p : Value} (h : BoxC t z B C W s p) (hb : Below W.heap.size W W') : BoxC t z B C W' s p := by
  obtain ⟨M, old, rfl, hB, hM, hn, hl, hc⟩ := h
  exact ⟨M, old, rfl, hB, (hb.block _ (box_lt hM)).trans hM, hn, hl, fun hs => hC.below (hc hs) hb⟩
theorem BoxC.other {t t' : TypeId} {z B M' : Nat} {old' : List Value} {C : World → List Value → Prop} (hC : GoodC C) {W W' : World} {s : Bool} {p : Value} (h : BoxC t z B C W s p)
    (hp : p ≠ .pointer (some ⟨M', 0, none⟩)) (hM' : W.heap[M']? = some (.cells old'.toArray t' (0, 0))) (hn' : NoInt old') (hk : ∀ k, k < W.heap.size → k ≠ M' → W'.heap[k]? = W.heap[k]?) : BoxC t z B C W' s p := by
  obtain ⟨M, old, rfl, hB, hM, hn, hl, hc⟩ := h
  refine ⟨M, old, rfl, hB, (hk _ (box_lt hM) fun e => hp (by rw [e])).trans hM, hn, hl, fun hs => hC.other (hc hs) hM' hn' hk⟩
theorem BoxC.lt {t : TypeId} {z B : Nat} {C : World → List Value → Prop} {W : World} {s : Bool} {p : Value} (h : BoxC t z B C W s p) : p ≠ .pointer (some ⟨W.heap.size, 0, none⟩) := by
  obtain ⟨M, old, rfl, hB, hM, _⟩ := h
  have := box_lt hM
  intro e
  simp only [Value.pointer.injEq, Option.some.injEq, Addr.mk.injEq, and_true] at e
  omega

/-- Two boxes that are made and filled in a drawn region: i makes, s fills. -/
def Two (t1 z1 t2 z2 B : Nat) (C1 C2 : World → List Value → Prop) (i1 s1 i2 s2 : Nat) (L : Array Bool) (vs : Nat → Value) (W : World) : Prop :=
  (L.getD i1 false = true → BoxC t1 z1 B C1 W (L.getD s1 false) (vs i1)) ∧ (L.getD i2 false = true → BoxC t2 z2 B C2 W (L.getD s2 false) (vs i2)) ∧ (L.getD i1 false = true → L.getD i2 false = true → vs i1 ≠ vs i2)

section
variable {t1 z1 t2 z2 B : Nat} {C1 C2 : World → List Value → Prop} {i1 s1 i2 s2 : Nat} {L : Array Bool} {vs : Nat → Value} {W W' : World}
theorem Two.start (h1 : L.getD i1 false = false) (h2 : L.getD i2 false = false) : Two t1 z1 t2 z2 B C1 C2 i1 s1 i2 s2 L vs W :=
  ⟨fun h => (by rw [h1] at h; cases h), fun h => (by rw [h2] at h; cases h), fun h => (by rw [h1] at h; cases h)⟩
theorem Two.below (g1 : GoodC C1) (g2 : GoodC C2) (h : Two t1 z1 t2 z2 B C1 C2 i1 s1 i2 s2 L vs W) (hb : Below W.heap.size W W') (j : Nat) (v : Value) (h1 : j ≠ i1) (h2 : j ≠ s1) (h3 : j ≠ i2) (h4 : j ≠ s2) :
    Two t1 z1 t2 z2 B C1 C2 i1 s1 i2 s2 (L.setIfInBounds j true) (fun i => if i = j then v else vs i) W' := by
  unfold Two
  simp only [getD_set_ne false h1, getD_set_ne false h2, getD_set_ne false h3, getD_set_ne false h4, h1.symm, h3.symm, if_false]
  exact ⟨fun h' => (h.1 h').below g1 hb, fun h' => (h.2.1 h').below g2 hb, h.2.2⟩
theorem getD_set_self {L : Array Bool} {j : Nat} (h : j < L.size) : (L.setIfInBounds j true).getD j false = true := by
  rw [Array.getD_eq_getD_getElem?, Array.getElem?_setIfInBounds]; simp [h]
theorem Two.new1 (g1 : GoodC C1) (g2 : GoodC C2) (h : Two t1 z1 t2 z2 B C1 C2 i1 s1 i2 s2 L vs W) (hs : L.getD s1 false = false) (hB : B ≤ W.heap.size) (old : List Value) (hl : old.length = z1) (hn : NoInt old) (h1 : i1 ≠ s1) (h2 : i1 ≠ i2) (h3 : i1 ≠ s2) :
    Two t1 z1 t2 z2 B C1 C2 i1 s1 i2 s2 (L.setIfInBounds i1 true) (fun i => if i = i1 then .pointer (some ⟨W.heap.size, 0, none⟩) else vs i) (W.alloc (.cells old.toArray t1 (0, 0))) := by
  unfold Two
  simp only [getD_set_ne false h1, getD_set_ne false h2, getD_set_ne false h3, h2.symm, if_false, if_true, hs]
  exact ⟨fun _ => ⟨_, old, rfl, hB, heap_new W _, hn, hl, fun h => by cases h⟩, fun h' => (h.2.1 h').below g2 (ext_alloc W _), fun _ h' e => (h.2.1 h').lt e.symm⟩
theorem Two.new2 (g1 : GoodC C1) (g2 : GoodC C2) (h : Two t1 z1 t2 z2 B C1 C2 i1 s1 i2 s2 L vs W) (hs : L.getD s2 false = false) (hB : B ≤ W.heap.size) (old : List Value) (hl : old.length = z2) (hn : NoInt old) (h1 : i2 ≠ s2) (h2 : i2 ≠ i1) (h3 : i2 ≠ s1) :
    Two t1 z1 t2 z2 B C1 C2 i1 s1 i2 s2 (L.setIfInBounds i2 true) (fun i => if i = i2 then .pointer (some ⟨W.heap.size, 0, none⟩) else vs i) (W.alloc (.cells old.toArray t2 (0, 0))) := by
  unfold Two
  simp only [getD_set_ne false h1, getD_set_ne false h2, getD_set_ne false h3, h2.symm, if_false, if_true, hs]
  exact ⟨fun h' => (h.1 h').below g1 (ext_alloc W _), fun _ => ⟨_, old, rfl, hB, heap_new W _, hn, hl, fun h => by cases h⟩, fun h' _ e => (h.1 h').lt e⟩
theorem Two.fill1 (g1 : GoodC C1) (g2 : GoodC C2) (h : Two t1 z1 t2 z2 B C1 C2 i1 s1 i2 s2 L vs W) (hi : L.getD i1 false = true) {M : Nat} {old : List Value} (hv : vs i1 = .pointer (some ⟨M, 0, none⟩)) (hM : W.heap[M]? = some (.cells old.toArray t1 (0, 0))) (ho : NoInt old) (hB : B ≤ M)
    {new : List Value} (hM' : W'.heap[M]? = some (.cells new.toArray t1 (0, 0))) (hk : ∀ k, k < W.heap.size → k ≠ M → W'.heap[k]? = W.heap[k]?) (hn : NoInt new) (hl : new.length = z1) (hc : C1 W new) (u : Value) (h1 : s1 ≠ i1) (h2 : s1 ≠ i2) (h3 : s1 ≠ s2) :
    Two t1 z1 t2 z2 B C1 C2 i1 s1 i2 s2 (L.setIfInBounds s1 true) (fun i => if i = s1 then u else vs i) W' := by
  unfold Two
  simp only [getD_set_ne false h1, getD_set_ne false h2, getD_set_ne false h3, h1.symm, h2.symm, if_false]
  exact ⟨fun _ => ⟨M, new, hv, hB, hM', hn, hl, fun _ => g1.other hc hM ho hk⟩, fun h' => (h.2.1 h').other g2 (fun e => h.2.2 hi h' (by rw [hv, e])) hM ho hk, h.2.2⟩
theorem Two.fill2 (g1 : GoodC C1) (g2 : GoodC C2) (h : Two t1 z1 t2 z2 B C1 C2 i1 s1 i2 s2 L vs W) (hi : L.getD i2 false = true) {M : Nat} {old : List Value} (hv : vs i2 = .pointer (some ⟨M, 0, none⟩)) (hM : W.heap[M]? = some (.cells old.toArray t2 (0, 0))) (ho : NoInt old) (hB : B ≤ M)
    {new : List Value} (hM' : W'.heap[M]? = some (.cells new.toArray t2 (0, 0))) (hk : ∀ k, k < W.heap.size → k ≠ M → W'.heap[k]? = W.heap[k]?) (hn : NoInt new) (hl : new.length = z2) (hc : C2 W new) (u : Value) (h1 : s2 ≠ i2) (h2 : s2 ≠ i1) (h3 : s2 ≠ s1) :
    Two t1 z1 t2 z2 B C1 C2 i1 s1 i2 s2 (L.setIfInBounds s2 true) (fun i => if i = s2 then u else vs i) W' := by
  unfold Two
  simp only [getD_set_ne false h1, getD_set_ne false h2, getD_set_ne false h3, h1.symm, h2.symm, if_false]
  exact ⟨fun h' => (h.1 h').other g1 (fun e => h.2.2 h' hi (by rw [hv, e])) hM ho hk, fun _ => ⟨M, new, hv, hB, hM', hn, hl, fun _ => g2.other hc hM ho hk⟩, h.2.2⟩
theorem Two.end1 (h : Two t1 z1 t2 z2 B C1 C2 i1 s1 i2 s2 L vs W) (h1 : L.getD i1 false = true) (h2 : L.getD s1 false = true) : BoxC t1 z1 B C1 W true (vs i1) := by have := h.1 h1; rw [h2] at this; exact this
theorem Two.end2 (h : Two t1 z1 t2 z2 B C1 C2 i1 s1 i2 s2 L vs W) (h1 : L.getD i2 false = true) (h2 : L.getD s2 false = true) : BoxC t2 z2 B C2 W true (vs i2) := by have := h.2.1 h1; rw [h2] at this; exact this
end
theorem two_cells {l : List Value} (h : l.length = 2) : ∃ a b, l = [a, b] := by
  match l, h with | [a, b], _ => exact ⟨a, b, rfl⟩
theorem three_cells {l : List Value} (h : l.length = 3) : ∃ a b c, l = [a, b, c] := by
  match l, h with | [a, b, c], _ => exact ⟨a, b, c, rfl⟩
/-- A store of two cells. -/
theorem store2 {W : World} {N : Nat} {x y : Value} {t : TypeId} (h : W.heap[N]? = some (.cells #[x, y] t (0, 0))) (a b : Value) :
    ((W.setCell ⟨N, 0, none⟩ a).setCell ⟨N, 1, none⟩ b).heap[N]? = some (.cells #[a, b] t (0, 0)) ∧ (∀ k, k < W.heap.size → k ≠ N → ((W.setCell ⟨N, 0, none⟩ a).setCell ⟨N, 1, none⟩ b).heap[k]? = W.heap[k]?) := by
  refine ⟨by simp [World.setCell, Array.getElem?_modify, h], fun k _ hk => by simp [World.setCell, Array.getElem?_modify, hk.symm]⟩
theorem store3 {W : World} {N : Nat} {x y z : Value} {t : TypeId} (h : W.heap[N]? = some (.cells #[x, y, z] t (0, 0))) (a b c : Value) :
    (((W.setCell ⟨N, 0, none⟩ a).setCell ⟨N, 1, none⟩ b).setCell ⟨N, 2, none⟩ c).heap[N]? = some (.cells #[a, b, c] t (0, 0)) ∧ (∀ k, k < W.heap.size → k ≠ N → (((W.setCell ⟨N, 0, none⟩ a).setCell ⟨N, 1, none⟩ b).setCell ⟨N, 2, none⟩ c).heap[k]? = W.heap[k]?) := by
  refine ⟨by simp [World.setCell, Array.getElem?_modify, h], fun k _ hk => by simp [World.setCell, Array.getElem?_modify, hk.symm]⟩
theorem Bxs.stored {l : List (Nat × Obj)} {w W : World} (h : Bxs l w W) {N : Nat} (hN : w.heap.size ≤ N) (hne : ∀ x ∈ l, x.1 ≠ N) (vals : List (Nat × Value)) : Bxs l w (vals.foldl (fun W p => W.setCell ⟨N, p.1, none⟩ p.2) W) := by
  induction vals generalizing W with
  | nil => exact h
  | cons p vals ih =>
    refine ih ⟨h.1.setCell (p := ⟨N, p.1, none⟩) hN p.2, fun x hx => ?_⟩
    have := h.2 x hx
    simp [World.setCell, Array.getElem?_modify, (hne x hx).symm, this]
end Go.Proofs.YtpmadgmjkljbgaaDoor
