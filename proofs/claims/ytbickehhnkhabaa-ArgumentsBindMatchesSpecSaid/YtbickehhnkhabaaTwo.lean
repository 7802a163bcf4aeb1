/- A law for a drawn region in which one element is appended to each of two rows that lie apart. Nothing here speaks of the program. -/
import Derived.Test.YtbickehhnkhabaaOl
import Derived.Test.YtbickehhnkhabaaBd9
import Derived.Deep.AppendLies
namespace Go.Proofs.Ytbickehhnkhabaa
open Go.RowKit

theorem put_comm (a : Act) {d e : Nat} (h : d ≠ e) (u v : Value) : (a.put (some d) u).put (some e) v = (a.put (some e) v).put (some d) u := by
  unfold Act.put
  simp [Array.setIfInBounds_comm _ _ h]

def sl1 (p : Nat) : Value := .slice (some ⟨p, 0, none⟩) 1 1
def slG (g n c : Nat) : Value := .slice (some ⟨g, 0, none⟩) n c

/-- What two appends leave of the world in which they began. -/
structure TwoRel (base : Nat) (r1 r2 : Option Nat) (w W : World) : Prop where
  below : Below base w W
  size : w.heap.size ≤ W.heap.size
  far : ∀ k, k < w.heap.size → r1 ≠ some k → r2 ≠ some k → W.heap[k]? = w.heap[k]?

theorem TwoRel.refl (base : Nat) (r1 r2 : Option Nat) (w : World) : TwoRel base r1 r2 w w := ⟨Below.refl _ _, Nat.le_refl _, fun _ _ _ _ => rfl⟩
theorem TwoRel.alloc {base : Nat} {r1 r2 : Option Nat} {w W : World} (h : TwoRel base r1 r2 w W) (hb : base ≤ w.heap.size) (o : Obj) : TwoRel base r1 r2 w (W.alloc o) :=
  ⟨h.below.alloc (Nat.le_trans hb h.size) _, by have := h.size; simp; omega, fun k hk a b => (Below.heap_alloc _ _ _ (Nat.lt_of_lt_of_le hk h.size)).trans (h.far k hk a b)⟩
theorem TwoRel.grown {base : Nat} {r1 r2 : Option Nat} {w W W' : World} {row : Option Nat} (h : TwoRel base r1 r2 w W) (hb : base ≤ w.heap.size) (hg : W.grownBy W' row) (hr : row = r1 ∨ row = r2) (hl : ∀ q, row = some q → base ≤ q) : TwoRel base r1 r2 w W' :=
  ⟨h.below.grown hg (Nat.le_trans hb h.size) hl, Nat.le_trans h.size hg.size, fun k hk a b => (hg.block k (Nat.lt_of_lt_of_le hk h.size) (by rcases hr with rfl | rfl <;> (intro e; first | exact a e | exact a e.symm | exact b e | exact b e.symm))).trans (h.far k hk a b)⟩

section
variable {P : Program} {ops : Array Oper} {Q : Exit → Act → World → Prop} {md : Region.Mode} {S : Array Bool → World → Prop}

theorem two_appends {n : Nat} {L : Array Bool} {a : Act} {w : World} {i1 i2 j1 j2 : Nat} {oi1 oi2 oj1 oj2 : Oper} {d1 d2 f1 f2 : Nat} (base : Nat) {e1 e2 t1 t2 : TypeId} {z1 z2 n1 n2 : Nat} {v1 v2 : Value} {xs1 xs2 : List Value} {C1 C2 : Array Value}
    (hi1 : ops[i1]? = some oi1) (hi2 : ops[i2]? = some oi2) (hj1 : ops[j1]? = some oj1) (hj2 : ops[j2]? = some oj2)
    (g1 : ∀ l, Region.wanted oi1 l = true) (g2 : ∀ l, Region.wanted oi2 l = true) (g3 : ∀ l, Region.wanted oj1 l = true) (g4 : ∀ l, Region.wanted oj2 l = true)
    (hne : i1 ≠ j1 ∧ i2 ≠ j1) (hd : d1 ≠ f1 ∧ d2 ≠ f1)
    (r0 : Region.ready md ops L = [i1, j1]) (r1 : Region.ready md ops (L.setIfInBounds i1 true) = [i2, j1]) (r2 : Region.ready md ops ((L.setIfInBounds i1 true).setIfInBounds i2 true) = [j1])
    (r3 : Region.ready md ops (((L.setIfInBounds i1 true).setIfInBounds i2 true).setIfInBounds j1 true) = [j2]) (r4 : Region.ready md ops ((L.setIfInBounds i1 true).setIfInBounds j1 true) = [i2]) (r5 : Region.ready md ops (L.setIfInBounds j1 true) = [i1])
    (hbase : base ≤ w.heap.size) (h1 : w.ownsRow base e1 z1 v1 n1 xs1) (h2 : w.ownsRow base e2 z2 v2 n2 xs2) (hap : v1.ownBlock = none ∨ v1.ownBlock ≠ v2.ownBlock)
    (hSa : ∀ i, i = i1 ∨ i = j1 → ∀ L W o, S L W → S (L.setIfInBounds i true) (W.alloc o))
    (hSg : ∀ i, i = i2 ∨ i = j2 → ∀ L W W' row, row = v1.ownBlock ∨ row = v2.ownBlock → W.grownBy W' row → S L W → S (L.setIfInBounds i true) W') (hS : S L w)
    (b1 : ∀ F, (F = a ∨ ∃ p, F = a.put (some f1) (sl1 p)) → ∀ W (K : Act → World → Prop), K (F.put (some d1) (sl1 W.heap.size)) (W.alloc (.cells C1 t1)) → oi1.wp P F W K Q)
    (b2 : ∀ F, (F = a ∨ (∃ p, F = a.put (some d1) (sl1 p)) ∨ ∃ p v, F = (a.put (some d1) (sl1 p)).put (some d2) v) → ∀ W (K : Act → World → Prop), K (F.put (some f1) (sl1 W.heap.size)) (W.alloc (.cells C2 t2)) → oj1.wp P F W K Q)
    (a1 : ∀ p F, (F = a.put (some d1) (sl1 p) ∨ ∃ q, F = (a.put (some d1) (sl1 p)).put (some f1) (sl1 q)) → ∀ W (K : Act → World → Prop), base ≤ W.heap.size → W.ownsRow base e1 z1 v1 n1 xs1 → W.heap[p]? = some (.cells C1 t1) →
      (∀ g c W', W'.ownsRow base e1 z1 (slG g (n1 + 1) c) (n1 + 1) (xs1 ++ C1.toList) → W.grownBy W' v1.ownBlock → v1.ownBlock = some g ∨ g = W.heap.size → K (F.put (some d2) (slG g (n1 + 1) c)) W') → oi2.wp P F W K Q)
    (a2 : ∀ p v q F, F = ((a.put (some d1) (sl1 p)).put (some d2) v).put (some f1) (sl1 q) → ∀ W (K : Act → World → Prop), base ≤ W.heap.size → W.ownsRow base e2 z2 v2 n2 xs2 → W.heap[q]? = some (.cells C2 t2) →
      (∀ g c W', W'.ownsRow base e2 z2 (slG g (n2 + 1) c) (n2 + 1) (xs2 ++ C2.toList) → W.grownBy W' v2.ownBlock → v2.ownBlock = some g ∨ g = W.heap.size → K (F.put (some f2) (slG g (n2 + 1) c)) W') → oj2.wp P F W K Q)
    (hap' : ∀ (W : World) (g c : Nat), W.ownsRow base e1 z1 (slG g (n1 + 1) c) (n1 + 1) (xs1 ++ C1.toList) → W.ownsRow base e2 z2 v2 n2 xs2 → (slG g (n1 + 1) c).ownBlock = none ∨ (slG g (n1 + 1) c).ownBlock ≠ v2.ownBlock)
    (H : ∀ p k1 c1 q k2 c2 W', W'.ownsRow base e1 z1 (slG k1 (n1 + 1) c1) (n1 + 1) (xs1 ++ C1.toList) → W'.ownsRow base e2 z2 (slG k2 (n2 + 1) c2) (n2 + 1) (xs2 ++ C2.toList) → TwoRel base v1.ownBlock v2.ownBlock w W' →
      v1.ownBlock = some k1 ∨ w.heap.size ≤ k1 → v2.ownBlock = some k2 ∨ w.heap.size ≤ k2 → S ((((L.setIfInBounds i1 true).setIfInBounds i2 true).setIfInBounds j1 true).setIfInBounds j2 true) W' →
      wpAnyL P md ops Q S n ((((L.setIfInBounds i1 true).setIfInBounds i2 true).setIfInBounds j1 true).setIfInBounds j2 true) ((((a.put (some d1) (sl1 p)).put (some d2) (slG k1 (n1 + 1) c1)).put (some f1) (sl1 q)).put (some f2) (slG k2 (n2 + 1) c2)) W') :
    wpAnyL P md ops Q S (n + 4) L a w := by
  have l1 : ∀ q, v1.ownBlock = some q → base ≤ q := fun q hq => (h1.lt q hq).1
  have l2 : ∀ q, v2.ownBlock = some q → base ≤ q := fun q hq => (h2.lt q hq).1
  have m1 : ∀ q, v1.ownBlock = some q → q < w.heap.size := fun q hq => (h1.lt q hq).2
  have m2 : ∀ q, v2.ownBlock = some q → q < w.heap.size := fun q hq => (h2.lt q hq).2
  have hap2 : v2.ownBlock = none ∨ v2.ownBlock ≠ v1.ownBlock := by
    rcases hap with h | h
    · cases hv : v2.ownBlock with
      | none => exact .inl rfl
      | some k => right; rw [h]; simp
    · exact .inr (Ne.symm h)
  -- the last append
  have T : ∀ p k1 c1 q W, TwoRel base v1.ownBlock v2.ownBlock w W → W.ownsRow base e1 z1 (slG k1 (n1 + 1) c1) (n1 + 1) (xs1 ++ C1.toList) → W.ownsRow base e2 z2 v2 n2 xs2 → W.heap[q]? = some (.cells C2 t2) → v1.ownBlock = some k1 ∨ w.heap.size ≤ k1 →
      S (((L.setIfInBounds i1 true).setIfInBounds i2 true).setIfInBounds j1 true) W → wpAnyL P md ops Q S (n + 1) (((L.setIfInBounds i1 true).setIfInBounds i2 true).setIfInBounds j1 true) (((a.put (some d1) (sl1 p)).put (some d2) (slG k1 (n1 + 1) c1)).put (some f1) (sl1 q)) W := by
    intro p k1 c1 q W hR ho1 ho2 hq hk1 hSW
    refine wpAnyL_ready r3 (by simp) (AllL.cons hj2 (g4 _) (fun K hK => ?_) AllL.nil)
    refine a2 p _ q _ rfl W K (Nat.le_trans hbase hR.size) ho2 hq (fun g c W' hn hg hat => ?_)
    have hS' := hSg j2 (.inr rfl) _ W W' _ (.inr rfl) hg hSW
    refine hK _ _ ⟨hS', H p k1 c1 q g c W' (ho1.kept hg (hap' W k1 c1 ho1 ho2)) hn (hR.grown hbase hg (.inr rfl) l2) hk1 (hat.imp id (fun e => by rw [e]; exact hR.size)) hS'⟩
  refine wpAnyL_ready r0 (by simp) (AllL.cons hi1 (g1 _) (fun K hK => ?_) (AllL.cons hj1 (g3 _) (fun K hK => ?_) AllL.nil))
  · -- i1 first
    refine b1 a (.inl rfl) w K (hK _ _ ⟨hSa i1 (.inl rfl) _ _ _ hS, ?_⟩)
    have R1 := (TwoRel.refl base v1.ownBlock v2.ownBlock w).alloc hbase (.cells C1 t1)
    have hS1 := hSa i1 (.inl rfl) L w (.cells C1 t1) hS
    refine wpAnyL_ready r1 (by simp) (AllL.cons hi2 (g2 _) (fun K hK => ?_) (AllL.cons hj1 (g3 _) (fun K hK => ?_) AllL.nil))
    · refine a1 w.heap.size _ (.inl rfl) _ K (Nat.le_trans hbase R1.size) (h1.alloc _) (heap_alloc_new w _) (fun g c W' hn hg hat => ?_)
      have R2 := R1.grown hbase hg (.inl rfl) l1
      have hS2 := hSg i2 (.inl rfl) _ _ W' _ (.inl rfl) hg hS1
      refine hK _ _ ⟨hS2, ?_⟩
      refine wpAnyL_ready r2 (by simp) (AllL.cons hj1 (g3 _) (fun K hK => ?_) AllL.nil)
      have hS3 := hSa j1 (.inr rfl) _ W' (.cells C2 t2) hS2
      refine b2 _ (.inr (.inr ⟨_, _, rfl⟩)) W' K (hK _ _ ⟨hS3, ?_⟩)
      exact T _ _ _ _ _ (R2.alloc hbase _) (hn.alloc _) (((h2.alloc _).kept hg hap2).alloc _) (heap_alloc_new W' _) (hat.imp id (fun e => by rw [e]; simp)) hS3
    · have hS2 := hSa j1 (.inr rfl) _ _ (.cells C2 t2) hS1
      have R2 := R1.alloc hbase (.cells C2 t2)
      refine b2 _ (.inr (.inl ⟨_, rfl⟩)) _ K (hK _ _ ⟨hS2, ?_⟩)
      refine wpAnyL_ready r4 (by simp) (AllL.cons hi2 (g2 _) (fun K hK => ?_) AllL.nil)
      refine a1 w.heap.size _ (.inr ⟨_, rfl⟩) _ K (Nat.le_trans hbase R2.size) ((h1.alloc _).alloc _) (box_alloc (heap_alloc_new w _) _) (fun g c W' hn hg hat => ?_)
      have R3 := R2.grown hbase hg (.inl rfl) l1
      have hS3 := hSg i2 (.inl rfl) _ _ W' _ (.inl rfl) hg hS2
      have hq := (hg.block (w.heap.size + 1) (by simp) (fun e => by have := m1 _ e.symm; omega)).trans (show _ = some (Obj.cells C2 t2) by have h := heap_alloc_new (w.alloc (.cells C1 t1)) (.cells C2 t2); rw [show (w.alloc (.cells C1 t1)).heap.size = w.heap.size + 1 by simp] at h; exact h)
      refine hK _ _ ⟨hS3, ?_⟩
      rw [put_comm _ hd.2.symm]
      rw [Array.setIfInBounds_comm _ _ hne.2.symm] at hS3 ⊢
      refine T _ _ _ _ _ R3 hn (((h2.alloc _).alloc _).kept hg hap2) (by rw [show (w.alloc (.cells C1 t1)).heap.size = w.heap.size + 1 by simp]; exact hq) (hat.imp id (fun e => by rw [e]; simp; omega)) hS3
  · -- j1 first
    have hS1 := hSa j1 (.inr rfl) L w (.cells C2 t2) hS
    have R1 := (TwoRel.refl base v1.ownBlock v2.ownBlock w).alloc hbase (.cells C2 t2)
    refine b2 a (.inl rfl) w K (hK _ _ ⟨hS1, ?_⟩)
    refine wpAnyL_ready r5 (by simp) (AllL.cons hi1 (g1 _) (fun K hK => ?_) AllL.nil)
    have hS2 := hSa i1 (.inl rfl) _ _ (.cells C1 t1) hS1
    have R2 := R1.alloc hbase (.cells C1 t1)
    refine b1 _ (.inr ⟨_, rfl⟩) _ K (hK _ _ ⟨hS2, ?_⟩)
    rw [put_comm _ hd.1.symm]
    rw [Array.setIfInBounds_comm _ _ hne.1.symm] at hS2 ⊢
    refine wpAnyL_ready r4 (by simp) (AllL.cons hi2 (g2 _) (fun K hK => ?_) AllL.nil)
    refine a1 _ _ (.inr ⟨_, rfl⟩) _ K (Nat.le_trans hbase R2.size) ((h1.alloc _).alloc _) (heap_alloc_new _ _) (fun g c W' hn hg hat => ?_)
    have R3 := R2.grown hbase hg (.inl rfl) l1
    have hS3 := hSg i2 (.inl rfl) _ _ W' _ (.inl rfl) hg hS2
    have hq := (hg.block w.heap.size (by simp; omega) (fun e => by have := m1 _ e.symm; omega)).trans (box_alloc (heap_alloc_new w (.cells C2 t2)) (.cells C1 t1))
    refine hK _ _ ⟨hS3, ?_⟩
    rw [put_comm _ hd.2.symm]
    rw [Array.setIfInBounds_comm _ _ hne.2.symm] at hS3 ⊢
    refine T _ _ _ _ _ R3 hn (((h2.alloc _).alloc _).kept hg hap2) hq (hat.imp id (fun e => by rw [e]; simp; omega)) hS3
/-- The same, where an operation m that yields a value of its own comes up behind the first append. -/
theorem two_appends_m {n : Nat} {L : Array Bool} {a : Act} {w : World} {i1 i2 j1 j2 m : Nat} {oi1 oi2 oj1 oj2 : Oper} {d1 d2 f1 f2 dm : Nat} {vm : Value} (base : Nat) {e1 e2 t1 t2 : TypeId} {z1 z2 n1 n2 : Nat} {v1 v2 : Value} {xs1 xs2 : List Value} {C1 C2 : Array Value}
    (hi1 : ops[i1]? = some oi1) (hi2 : ops[i2]? = some oi2) (hj1 : ops[j1]? = some oj1) (hj2 : ops[j2]? = some oj2)
    (g1 : ∀ l, Region.wanted oi1 l = true) (g2 : ∀ l, Region.wanted oi2 l = true) (g3 : ∀ l, Region.wanted oj1 l = true) (g4 : ∀ l, Region.wanted oj2 l = true)
    (hne : i1 ≠ j1 ∧ i2 ≠ j1 ∧ m ≠ j1) (hd : d1 ≠ f1 ∧ d2 ≠ f1 ∧ dm ≠ f1)
    (r0 : Region.ready md ops L = [i1, j1]) (r1 : Region.ready md ops (L.setIfInBounds i1 true) = [i2, j1]) (r2 : Region.ready md ops (((L.setIfInBounds i1 true).setIfInBounds i2 true).setIfInBounds m true) = [j1])
    (r3 : Region.ready md ops ((((L.setIfInBounds i1 true).setIfInBounds i2 true).setIfInBounds m true).setIfInBounds j1 true) = [j2]) (r4 : Region.ready md ops ((L.setIfInBounds i1 true).setIfInBounds j1 true) = [i2]) (r5 : Region.ready md ops (L.setIfInBounds j1 true) = [i1])
    (hbase : base ≤ w.heap.size) (h1 : w.ownsRow base e1 z1 v1 n1 xs1) (h2 : w.ownsRow base e2 z2 v2 n2 xs2) (hap : v1.ownBlock = none ∨ v1.ownBlock ≠ v2.ownBlock)
    (hSa : ∀ i, i = i1 ∨ i = j1 → ∀ L W o, S L W → S (L.setIfInBounds i true) (W.alloc o))
    (hSg : ∀ i, i = i2 ∨ i = j2 → ∀ L W W' row, row = v1.ownBlock ∨ row = v2.ownBlock → W.grownBy W' row → S L W → S (L.setIfInBounds i true) W') (hSm : ∀ L W, S L W → S (L.setIfInBounds m true) W) (hS : S L w)
    (b1 : ∀ F, (F = a ∨ ∃ p, F = a.put (some f1) (sl1 p)) → ∀ W (K : Act → World → Prop), K (F.put (some d1) (sl1 W.heap.size)) (W.alloc (.cells C1 t1)) → oi1.wp P F W K Q)
    (b2 : ∀ F, (F = a ∨ (∃ p, F = a.put (some d1) (sl1 p)) ∨ ∃ p v, F = ((a.put (some d1) (sl1 p)).put (some d2) v).put (some dm) vm) → ∀ W (K : Act → World → Prop), K (F.put (some f1) (sl1 W.heap.size)) (W.alloc (.cells C2 t2)) → oj1.wp P F W K Q)
    (a1 : ∀ p F, (F = a.put (some d1) (sl1 p) ∨ ∃ q, F = (a.put (some d1) (sl1 p)).put (some f1) (sl1 q)) → ∀ W (K : Act → World → Prop), base ≤ W.heap.size → W.ownsRow base e1 z1 v1 n1 xs1 → W.heap[p]? = some (.cells C1 t1) →
      (∀ g c W', W'.ownsRow base e1 z1 (slG g (n1 + 1) c) (n1 + 1) (xs1 ++ C1.toList) → W.grownBy W' v1.ownBlock → v1.ownBlock = some g ∨ g = W.heap.size → K (F.put (some d2) (slG g (n1 + 1) c)) W') → oi2.wp P F W K Q)
    (a2 : ∀ p v q F, F = (((a.put (some d1) (sl1 p)).put (some d2) v).put (some dm) vm).put (some f1) (sl1 q) → ∀ W (K : Act → World → Prop), base ≤ W.heap.size → W.ownsRow base e2 z2 v2 n2 xs2 → W.heap[q]? = some (.cells C2 t2) →
      (∀ g c W', W'.ownsRow base e2 z2 (slG g (n2 + 1) c) (n2 + 1) (xs2 ++ C2.toList) → W.grownBy W' v2.ownBlock → v2.ownBlock = some g ∨ g = W.heap.size → K (F.put (some f2) (slG g (n2 + 1) c)) W') → oj2.wp P F W K Q)
    (mA : ∀ p v n W, S ((L.setIfInBounds i1 true).setIfInBounds i2 true) W → wpAnyL P md ops Q S n (((L.setIfInBounds i1 true).setIfInBounds i2 true).setIfInBounds m true) (((a.put (some d1) (sl1 p)).put (some d2) v).put (some dm) vm) W →
      wpAnyL P md ops Q S (n + 1) ((L.setIfInBounds i1 true).setIfInBounds i2 true) ((a.put (some d1) (sl1 p)).put (some d2) v) W)
    (mB : ∀ p v q n W, S (((L.setIfInBounds i1 true).setIfInBounds i2 true).setIfInBounds j1 true) W → wpAnyL P md ops Q S n ((((L.setIfInBounds i1 true).setIfInBounds i2 true).setIfInBounds j1 true).setIfInBounds m true) ((((a.put (some d1) (sl1 p)).put (some d2) v).put (some f1) (sl1 q)).put (some dm) vm) W →
      wpAnyL P md ops Q S (n + 1) (((L.setIfInBounds i1 true).setIfInBounds i2 true).setIfInBounds j1 true) (((a.put (some d1) (sl1 p)).put (some d2) v).put (some f1) (sl1 q)) W)
    (hap' : ∀ (W : World) (g c : Nat), W.ownsRow base e1 z1 (slG g (n1 + 1) c) (n1 + 1) (xs1 ++ C1.toList) → W.ownsRow base e2 z2 v2 n2 xs2 → (slG g (n1 + 1) c).ownBlock = none ∨ (slG g (n1 + 1) c).ownBlock ≠ v2.ownBlock)
    (H : ∀ p k1 c1 q k2 c2 W', W'.ownsRow base e1 z1 (slG k1 (n1 + 1) c1) (n1 + 1) (xs1 ++ C1.toList) → W'.ownsRow base e2 z2 (slG k2 (n2 + 1) c2) (n2 + 1) (xs2 ++ C2.toList) → TwoRel base v1.ownBlock v2.ownBlock w W' →
      v1.ownBlock = some k1 ∨ w.heap.size ≤ k1 → v2.ownBlock = some k2 ∨ w.heap.size ≤ k2 → S (((((L.setIfInBounds i1 true).setIfInBounds i2 true).setIfInBounds m true).setIfInBounds j1 true).setIfInBounds j2 true) W' →
      wpAnyL P md ops Q S n (((((L.setIfInBounds i1 true).setIfInBounds i2 true).setIfInBounds m true).setIfInBounds j1 true).setIfInBounds j2 true) (((((a.put (some d1) (sl1 p)).put (some d2) (slG k1 (n1 + 1) c1)).put (some dm) vm).put (some f1) (sl1 q)).put (some f2) (slG k2 (n2 + 1) c2)) W') :
    wpAnyL P md ops Q S (n + 5) L a w := by
  have l1 : ∀ q, v1.ownBlock = some q → base ≤ q := fun q hq => (h1.lt q hq).1
  have l2 : ∀ q, v2.ownBlock = some q → base ≤ q := fun q hq => (h2.lt q hq).1
  have m1 : ∀ q, v1.ownBlock = some q → q < w.heap.size := fun q hq => (h1.lt q hq).2
  have hap2 : v2.ownBlock = none ∨ v2.ownBlock ≠ v1.ownBlock := by
    rcases hap with h | h
    · cases hv : v2.ownBlock with
      | none => exact .inl rfl
      | some k => right; rw [h]; simp
    · exact .inr (Ne.symm h)
  have T : ∀ p k1 c1 q W, TwoRel base v1.ownBlock v2.ownBlock w W → W.ownsRow base e1 z1 (slG k1 (n1 + 1) c1) (n1 + 1) (xs1 ++ C1.toList) → W.ownsRow base e2 z2 v2 n2 xs2 → W.heap[q]? = some (.cells C2 t2) → v1.ownBlock = some k1 ∨ w.heap.size ≤ k1 →
      S ((((L.setIfInBounds i1 true).setIfInBounds i2 true).setIfInBounds m true).setIfInBounds j1 true) W → wpAnyL P md ops Q S (n + 1) ((((L.setIfInBounds i1 true).setIfInBounds i2 true).setIfInBounds m true).setIfInBounds j1 true) ((((a.put (some d1) (sl1 p)).put (some d2) (slG k1 (n1 + 1) c1)).put (some dm) vm).put (some f1) (sl1 q)) W := by
    intro p k1 c1 q W hR ho1 ho2 hq hk1 hSW
    refine wpAnyL_ready r3 (by simp) (AllL.cons hj2 (g4 _) (fun K hK => ?_) AllL.nil)
    refine a2 p _ q _ rfl W K (Nat.le_trans hbase hR.size) ho2 hq (fun g c W' hn hg hat => ?_)
    have hS' := hSg j2 (.inr rfl) _ W W' _ (.inr rfl) hg hSW
    refine hK _ _ ⟨hS', H p k1 c1 q g c W' (ho1.kept hg (hap' W k1 c1 ho1 ho2)) hn (hR.grown hbase hg (.inr rfl) l2) hk1 (hat.imp id (fun e => by rw [e]; exact hR.size)) hS'⟩
  have TB : ∀ p k1 c1 q W, TwoRel base v1.ownBlock v2.ownBlock w W → W.ownsRow base e1 z1 (slG k1 (n1 + 1) c1) (n1 + 1) (xs1 ++ C1.toList) → W.ownsRow base e2 z2 v2 n2 xs2 → W.heap[q]? = some (.cells C2 t2) → v1.ownBlock = some k1 ∨ w.heap.size ≤ k1 →
      S (((L.setIfInBounds i1 true).setIfInBounds i2 true).setIfInBounds j1 true) W → wpAnyL P md ops Q S (n + 2) (((L.setIfInBounds i1 true).setIfInBounds i2 true).setIfInBounds j1 true) (((a.put (some d1) (sl1 p)).put (some d2) (slG k1 (n1 + 1) c1)).put (some f1) (sl1 q)) W := by
    intro p k1 c1 q W hR ho1 ho2 hq hk1 hSW
    refine mB p _ q _ W hSW ?_
    have hSW' := hSm _ W hSW
    rw [put_comm _ hd.2.2.symm]
    rw [Array.setIfInBounds_comm _ _ hne.2.2.symm] at hSW' ⊢
    exact T p k1 c1 q W hR ho1 ho2 hq hk1 hSW'
  refine wpAnyL_ready r0 (by simp) (AllL.cons hi1 (g1 _) (fun K hK => ?_) (AllL.cons hj1 (g3 _) (fun K hK => ?_) AllL.nil))
  · refine b1 a (.inl rfl) w K (hK _ _ ⟨hSa i1 (.inl rfl) _ _ _ hS, ?_⟩)
    have R1 := (TwoRel.refl base v1.ownBlock v2.ownBlock w).alloc hbase (.cells C1 t1)
    have hS1 := hSa i1 (.inl rfl) L w (.cells C1 t1) hS
    refine wpAnyL_ready r1 (by simp) (AllL.cons hi2 (g2 _) (fun K hK => ?_) (AllL.cons hj1 (g3 _) (fun K hK => ?_) AllL.nil))
    · refine a1 w.heap.size _ (.inl rfl) _ K (Nat.le_trans hbase R1.size) (h1.alloc _) (heap_alloc_new w _) (fun g c W' hn hg hat => ?_)
      have R2 := R1.grown hbase hg (.inl rfl) l1
      have hS2 := hSg i2 (.inl rfl) _ _ W' _ (.inl rfl) hg hS1
      refine hK _ _ ⟨hS2, mA _ _ _ _ hS2 ?_⟩
      have hS2m := hSm _ _ hS2
      refine wpAnyL_ready r2 (by simp) (AllL.cons hj1 (g3 _) (fun K hK => ?_) AllL.nil)
      have hS3 := hSa j1 (.inr rfl) _ W' (.cells C2 t2) hS2m
      refine b2 _ (.inr (.inr ⟨_, _, rfl⟩)) W' K (hK _ _ ⟨hS3, ?_⟩)
      exact T _ _ _ _ _ (R2.alloc hbase _) (hn.alloc _) (((h2.alloc _).kept hg hap2).alloc _) (heap_alloc_new W' _) (hat.imp id (fun e => by rw [e]; simp)) hS3
    · have hS2 := hSa j1 (.inr rfl) _ _ (.cells C2 t2) hS1
      have R2 := R1.alloc hbase (.cells C2 t2)
      refine b2 _ (.inr (.inl ⟨_, rfl⟩)) _ K (hK _ _ ⟨hS2, ?_⟩)
      refine wpAnyL_ready r4 (by simp) (AllL.cons hi2 (g2 _) (fun K hK => ?_) AllL.nil)
      refine a1 w.heap.size _ (.inr ⟨_, rfl⟩) _ K (Nat.le_trans hbase R2.size) ((h1.alloc _).alloc _) (box_alloc (heap_alloc_new w _) _) (fun g c W' hn hg hat => ?_)
      have R3 := R2.grown hbase hg (.inl rfl) l1
      have hS3 := hSg i2 (.inl rfl) _ _ W' _ (.inl rfl) hg hS2
      have hq := (hg.block (w.heap.size + 1) (by simp) (fun e => by have := m1 _ e.symm; omega)).trans (show _ = some (Obj.cells C2 t2) by have h := heap_alloc_new (w.alloc (.cells C1 t1)) (.cells C2 t2); rw [show (w.alloc (.cells C1 t1)).heap.size = w.heap.size + 1 by simp] at h; exact h)
      refine hK _ _ ⟨hS3, ?_⟩
      rw [put_comm _ hd.2.1.symm]
      rw [Array.setIfInBounds_comm _ _ hne.2.1.symm] at hS3 ⊢
      refine TB _ _ _ _ _ R3 hn (((h2.alloc _).alloc _).kept hg hap2) (by rw [show (w.alloc (.cells C1 t1)).heap.size = w.heap.size + 1 by simp]; exact hq) (hat.imp id (fun e => by rw [e]; simp; omega)) hS3
  · have hS1 := hSa j1 (.inr rfl) L w (.cells C2 t2) hS
    have R1 := (TwoRel.refl base v1.ownBlock v2.ownBlock w).alloc hbase (.cells C2 t2)
    refine b2 a (.inl rfl) w K (hK _ _ ⟨hS1, ?_⟩)
    refine wpAnyL_ready r5 (by simp) (AllL.cons hi1 (g1 _) (fun K hK => ?_) AllL.nil)
    have hS2 := hSa i1 (.inl rfl) _ _ (.cells C1 t1) hS1
    have R2 := R1.alloc hbase (.cells C1 t1)
    refine b1 _ (.inr ⟨_, rfl⟩) _ K (hK _ _ ⟨hS2, ?_⟩)
    rw [put_comm _ hd.1.symm]
    rw [Array.setIfInBounds_comm _ _ hne.1.symm] at hS2 ⊢
    refine wpAnyL_ready r4 (by simp) (AllL.cons hi2 (g2 _) (fun K hK => ?_) AllL.nil)
    refine a1 _ _ (.inr ⟨_, rfl⟩) _ K (Nat.le_trans hbase R2.size) ((h1.alloc _).alloc _) (heap_alloc_new _ _) (fun g c W' hn hg hat => ?_)
    have R3 := R2.grown hbase hg (.inl rfl) l1
    have hS3 := hSg i2 (.inl rfl) _ _ W' _ (.inl rfl) hg hS2
    have hq := (hg.block w.heap.size (by simp; omega) (fun e => by have := m1 _ e.symm; omega)).trans (box_alloc (heap_alloc_new w (.cells C2 t2)) (.cells C1 t1))
    refine hK _ _ ⟨hS3, ?_⟩
    rw [put_comm _ hd.2.1.symm]
    rw [Array.setIfInBounds_comm _ _ hne.2.1.symm] at hS3 ⊢
    refine TB _ _ _ _ _ R3 hn (((h2.alloc _).alloc _).kept hg hap2) hq (hat.imp id (fun e => by rw [e]; simp; omega)) hS3
end
end Go.Proofs.Ytbickehhnkhabaa
