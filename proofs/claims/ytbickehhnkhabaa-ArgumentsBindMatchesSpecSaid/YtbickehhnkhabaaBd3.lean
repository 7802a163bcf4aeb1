/- Walks: values and lists of values compared with themselves. -/
import Derived.Test.YtbickehhnkhabaaBd2
import Derived.Deep.QuietTactic
import Derived.Deep.DeepCutAuto
import Derived.Deep.CutBlock
namespace Go.Proofs.Ytbickehhnkhabaa
open Go.RowKit

/-- The limbs of a value can be read. -/
def GoodVal (w : World) (x : Val) : Prop :=
  (∃ xs : List Int, RowS 1 w (.slice x.na x.nl x.nc) x.nl (xs.map (Value.int .u32))) ∧ (∃ xs : List Int, RowS 1 w (.slice x.da x.dl x.dc) x.dl (xs.map (Value.int .u32)))
theorem GoodVal.below {w w' : World} {x : Val} (h : GoodVal w x) (hb : Below w.heap.size w w') : GoodVal w' x := by
  obtain ⟨⟨xs, h1⟩, ⟨ys, h2⟩⟩ := h
  exact ⟨⟨xs, h1.below hb⟩, ⟨ys, h2.below hb⟩⟩
theorem GoodVal.unb (w : World) : GoodVal w unbV := ⟨⟨[], RowS.nil 1 w⟩, ⟨[], RowS.nil 1 w⟩⟩

set_option maxRecDepth 100000 in
set_option maxHeartbeats 1000000 in
theorem EqualU_any (v : Value) (n : Nat) (xs : List Int) (w : World) (hv : RowS 1 w v n (xs.map (Value.int .u32))) :
    Calls Try.prog 85 #[v, v] w fun e w' => e = .returned (.bool true) ∧ Below w.heap.size w w' := by
  obtain ⟨a, cap, rfl, hl, ⟨hm, _⟩, hn, hc⟩ := hv
  have hnx : xs.length = n := by simpa using hn
  have HC := Lib.hid hc
  clear hc hn
  subst hnx
  go_enter Try.func85, Try.ntmps85
  go_wp2
  go_loopg [13] xs.length (fun q s13 wr => ∃ k : Nat, k ≤ xs.length ∧ xs.length - k ≤ q ∧ s13 = .int .i64 k ∧ Below w.heap.size w wr)
  case atStart => exact ⟨0, Nat.zero_le _, by omega, rfl, Below.refl _ _⟩
  case round =>
    obtain ⟨k, hk, hq, rfl, hb⟩ := hrel
    by_cases hlt : k < xs.length
    · obtain ⟨b, off, rfl, hcell⟩ := HC.out k (by simpa using hlt)
      have hcell' : wr.cell? ⟨b, off + k, none⟩ = some (.int .u32 xs[k]) := by rw [hb.cell (World.block_lt_of_cell? _ _ hcell)]; simpa using hcell
      clear hcell
      generalize xs[k] = x at *
      go_wp2
      go_quiet (fail)
      go_wp2
      go_roundg (xs.length - (k + 1))
      case measure => omega
      case rel => exact ⟨k + 1, by omega, by omega, by go_num, below_drewN hb _⟩
    · go_wp2
      go_ret
      exact ⟨rfl, hb⟩

set_option maxHeartbeats 1000000 in
theorem SameInt_any (g : Bool) (a : Option Addr) (n c : Nat) (xs : List Int) (w : World) (hv : RowS 1 w (.slice a n c) n (xs.map (Value.int .u32))) :
    Calls Try.prog 78 #[.agg #[.bool g, .slice a n c], .agg #[.bool g, .slice a n c]] w fun e w' => e = .returned (.bool true) ∧ Below w.heap.size w w' := by
  have hE := fun W (hb : Below w.heap.size w W) => EqualU_any (.slice a n c) n xs W (hv.below hb)
  have HE := Lib.hid hE
  have hb1 := ext_alloc w (.cells #[.bool g, .slice a n c] 56)
  have hx1 := heap_new w (.cells #[.bool g, .slice a n c] 56)
  have hb2 := ext_alloc (w.alloc (.cells #[.bool g, .slice a n c] 56)) (.cells #[.bool g, .slice a n c] 56)
  have hx2 := heap_new (w.alloc (.cells #[.bool g, .slice a n c] 56)) (.cells #[.bool g, .slice a n c] 56)
  have hx1' := (hb2.block w.heap.size (by simp)).trans hx1
  obtain ⟨p0, p1, p2, p3⟩ := box2 hx1'
  obtain ⟨q0, q1, q2, q3⟩ := box2 hx2
  have hbb := ext_trans hb1 hb2
  clear hE hv hx1 hx2 hb2 hx1'
  go_enter Try.func78, Try.ntmps78
  go_wp2_with (go_at_call 85; refine (HE.out _ hbb).mono ?_; rintro e w' ⟨rfl, hb'⟩)
  go_ret
  exact ⟨rfl, ext_trans hbb hb'⟩

theorem box_cell {w : World} {N : Nat} {cs : Array Value} {t : TypeId} (h : w.heap[N]? = some (.cells cs t (0, 0))) (i : Nat) : w.cell? ⟨N, i, none⟩ = cs[i]? := by
  simp [World.cell?, h]
theorem box_frozen {w : World} {N : Nat} {cs : Array Value} {t : TypeId} (h : w.heap[N]? = some (.cells cs t (0, 0))) (i : Nat) : w.frozen? ⟨N, i, none⟩ = false := by
  simp [World.frozen?, h]
theorem box_lt {w : World} {N : Nat} {o : Obj} (h : w.heap[N]? = some o) : N < w.heap.size := by
  rcases Nat.lt_or_ge N w.heap.size with h' | h'
  · exact h'
  · rw [Array.getElem?_eq_none h'] at h; cases h

def valO (x : Val) : Obj := .cells #[.int .i64 x.k, .bool x.n, .slice x.na x.nl x.nc, .bool x.d, .slice x.da x.dl x.dc, .string x.s, .int .i64 x.r] 58 (0, 0)

set_option maxRecDepth 100000 in
set_option maxHeartbeats 1000000 in
theorem SameValue_any (x : Val) (w : World) (hv : GoodVal w x) :
    Calls Try.prog 55 #[valA x, valA x] w fun e w' => e = .returned (.bool true) ∧ Below w.heap.size w w' := by
  obtain ⟨k, n, na, nl, nc, d, da, dl, dc, s, r⟩ := x
  obtain ⟨⟨xs, h1⟩, ⟨ys, h2⟩⟩ := hv
  simp only at h1 h2
  have E1 := Lib.hid (fun W (hb : Below w.heap.size w W) => SameInt_any n na nl nc xs W (h1.below hb))
  have E2 := Lib.hid (fun W (hb : Below w.heap.size w W) => SameInt_any d da dl dc ys W (h2.below hb))
  have hb1 := ext_alloc w (valO ⟨k, n, na, nl, nc, d, da, dl, dc, s, r⟩)
  have hx1 := heap_new w (valO ⟨k, n, na, nl, nc, d, da, dl, dc, s, r⟩)
  have hb2 := ext_alloc (w.alloc (valO ⟨k, n, na, nl, nc, d, da, dl, dc, s, r⟩)) (valO ⟨k, n, na, nl, nc, d, da, dl, dc, s, r⟩)
  have hx2 := heap_new (w.alloc (valO ⟨k, n, na, nl, nc, d, da, dl, dc, s, r⟩)) (valO ⟨k, n, na, nl, nc, d, da, dl, dc, s, r⟩)
  have hx1' := (hb2.block w.heap.size (by simp)).trans hx1
  have hbb := ext_trans hb1 hb2
  clear h1 h2 hx1 hb1 hb2
  unfold valA
  unfold valO at *
  simp only at *
  rw [show (w.alloc (.cells #[.int .i64 k, .bool n, .slice na nl nc, .bool d, .slice da dl dc, .string s, .int .i64 r] 58)).heap.size = w.heap.size + 1 by simp] at hx2
  go_enter Try.func55, Try.ntmps55
  go_upto_region 1 with fail
  generalize ((w.alloc (.cells #[.int .i64 k, .bool n, .slice na nl nc, .bool d, .slice da dl dc, .string s, .int .i64 r] 58)).alloc (.cells #[.int .i64 k, .bool n, .slice na nl nc, .bool d, .slice da dl dc, .string s, .int .i64 r] 58)) = w2 at *
  have p0 := box_cell hx1' 0
  have p1 := box_cell hx1' 1
  have p2 := box_cell hx1' 2
  have p3 := box_cell hx1' 3
  have p4 := box_cell hx1' 4
  have p5 := box_cell hx1' 5
  have p6 := box_cell hx1' 6
  have q0 := box_cell hx2 0
  have q1 := box_cell hx2 1
  have q2 := box_cell hx2 2
  have q3 := box_cell hx2 3
  have q4 := box_cell hx2 4
  have q5 := box_cell hx2 5
  have q6 := box_cell hx2 6
  simp only [List.getElem?_toArray, List.getElem?_cons_zero, List.getElem?_cons_succ] at p0 p1 p2 p3 p4 p5 p6 q0 q1 q2 q3 q4 q5 q6
  have hl1 := box_lt hx1'
  have hl2 := box_lt hx2
  clear hx1' hx2
  go_wp2_with fail
  refine (E1.out _ hbb).mono ?_
  rintro e w5 ⟨rfl, hb5⟩
  have r3 := (hb5.cell (p := ⟨w.heap.size, 3, none⟩) hl1).trans p3
  have r4 := (hb5.cell (p := ⟨w.heap.size, 4, none⟩) hl1).trans p4
  have s3 := (hb5.cell (p := ⟨w.heap.size + 1, 3, none⟩) hl2).trans q3
  have s4 := (hb5.cell (p := ⟨w.heap.size + 1, 4, none⟩) hl2).trans q4
  have hb6 := ext_trans hbb hb5
  clear p0 p1 p2 p3 p4 p5 p6 q0 q1 q2 q3 q4 q5 q6 hbb hb5 hl1 hl2
  go_wp2_with fail
  refine (E2.out _ hb6).mono ?_
  rintro e w6 ⟨rfl, hb7⟩
  go_wp2
  go_ret
  exact ⟨rfl, ext_trans hb6 hb7⟩
end Go.Proofs.Ytbickehhnkhabaa
