/- Part 20 of the proof. -/
import Derived.Test.YtpmadgmjkljbgaaDoorM19

/- Walk: bits, of and, or, xor. -/
namespace Go.Proofs.YtpmadgmjkljbgaaDoor
open Go.RowKit

theorem bits_dig (m : Nat) : (bitsN m).length ≤ 16 * (dig m).length := by
  refine bitsN_length_le ?_
  rw [Nat.pow_mul]
  have e : (2 : Nat) ^ 16 = 65536 := by decide
  rw [e]
  exact dig_lt m
theorem bxs_set {l : List (Nat × Obj)} {w W : World} (h : Bxs l w W) {g j : Nat} (hg : w.heap.size ≤ g) (hne : ∀ x ∈ l, x.1 ≠ g) (v : Value) : Bxs l w (W.setCell ⟨g, j, none⟩ v) :=
  ⟨h.1.setCell (p := ⟨g, j, none⟩) hg v, fun x hx => by rw [Below.heap_setCell _ _ _ _ (by simpa using hne x hx)]; exact h.2 x hx⟩
theorem ownB_form {B n : Nat} {v : Value} {W : World} (h : OwnB B n v W) (h0 : 0 < n) : ∃ g c, v = .slice (some ⟨g, 0, none⟩) n c ∧ B ≤ g := by
  obtain ⟨ll, _, h⟩ := h
  exact own_form h h0
theorem boolsL_slice {n : Nat} {v : Value} {W : World} (h : BoolsL n v W) : ∃ a c, v = .slice a n c := by
  obtain ⟨lo, h1, a, c, rfl, _⟩ := h
  exact ⟨a, c, by rw [h1]⟩
theorem ownB_lt {B n g c : Nat} {W : World} (h : OwnB B n (.slice (some ⟨g, 0, none⟩) n c) W) (h0 : 0 < n) : g < W.heap.size := by
  obtain ⟨⟨y, hy⟩, _⟩ := h.store h0
  exact World.block_lt_of_cell? _ _ hy
set_option maxRecDepth 100000 in
set_option maxHeartbeats 4000000 in
theorem bits14_any (xv yv : Value) (x y : Int) (w : World) (hx : IntAt w xv x) (hy : IntAt w yv y) (nx : (dig x.natAbs).length ≤ 1000) (ny : (dig y.natAbs).length ≤ 1000) :
    Calls Tryd.prog 32 #[.int .i64 14, xv, yv] w fun e w' => SomeStep w e w' := by
  have HX := Lib.hid (fun W (h : Below w.heap.size w W) => hx.below h)
  have HY := Lib.hid (fun W (h : Below w.heap.size w W) => hy.below h)
  obtain ⟨b1, v1, m1, rfl, hm1, hz1⟩ := hx
  obtain ⟨b2, v2, m2, rfl, hm2, hz2⟩ := hy
  have hzm1 : x.natAbs = m1 := by rw [← hz1, ZI_abs]
  have hzm2 : y.natAbs = m2 := by rw [← hz2, ZI_abs]
  have HO1 := Lib.hid (fun W (h : Below w.heap.size w W) => Ones_any _ m1 W (hm1.below h) (by rw [← hzm1]; omega))
  have HO2 := Lib.hid (fun W (h : Below w.heap.size w W) => Ones_any _ m2 W (hm2.below h) (by rw [← hzm2]; omega))
  obtain ⟨a1, c1, rfl⟩ := hm1.slice
  obtain ⟨a2, c2, rfl⟩ := hm2.slice
  have HLB1 := Lib.hid (show (bitsN m1).length ≤ 100000 from Nat.le_trans (bits_dig m1) (by rw [hzm1] at nx; omega))
  have HLB2 := Lib.hid (show (bitsN m2).length ≤ 100000 from Nat.le_trans (bits_dig m2) (by rw [hzm2] at ny; omega))
  clear hm1 hm2 hz1 hz2 hzm1 hzm2
  generalize (dig m1).length = l1 at *
  generalize (dig m2).length = l2 at *
  have hal := alloc3 w (.cells #[.bool b1, .slice a1 l1 c1] 41) (.cells #[.bool b2, .slice a2 l2 c2] 41) (.cells #[.int .i64 0, .int .i64 0, .bool false, .slice none 0 0, .bool false, .slice none 0 0, .string ⟨#[]⟩, .int .i64 0, .int .i64 0, .string ⟨#[]⟩, .int .i64 0, .bool false, .slice none 0 0, .bool false, .slice none 0 0, .string ⟨#[]⟩, .int .i64 0, .slice none 0 0] 33)
  go_enter Tryd.func32, Tryd.ntmps32
  go_upto_region 1 with fail
  generalize (((w.alloc (.cells #[.bool b1, .slice a1 l1 c1] 41)).alloc (.cells #[.bool b2, .slice a2 l2 c2] 41)).alloc (.cells #[.int .i64 0, .int .i64 0, .bool false, .slice none 0 0, .bool false, .slice none 0 0, .string ⟨#[]⟩, .int .i64 0, .int .i64 0, .string ⟨#[]⟩, .int .i64 0, .bool false, .slice none 0 0, .bool false, .slice none 0 0, .string ⟨#[]⟩, .int .i64 0, .slice none 0 0] 33)) = w1 at *
  obtain ⟨hb1, h1, h2, h3⟩ := hal
  skip
  go_upto_region 2 with fail
  have hBd : Bxs [(w.heap.size, (.cells #[.bool b1, .slice a1 l1 c1] 41)), (w.heap.size + 1, (.cells #[.bool b2, .slice a2 l2 c2] 41)), (w.heap.size + 1 + 1, (.cells #[.int .i64 0, .int .i64 0, .bool false, .slice none 0 0, .bool false, .slice none 0 0, .string ⟨#[]⟩, .int .i64 0, .int .i64 0, .string ⟨#[]⟩, .int .i64 0, .bool false, .slice none 0 0, .bool false, .slice none 0 0, .string ⟨#[]⟩, .int .i64 0, .slice none 0 0] 33))] w w1.drew := ⟨hb1.drew, fun x hx => by
    simp only [List.mem_cons, List.not_mem_nil, or_false] at hx
    rcases hx with rfl | rfl | rfl
    · exact h1
    · exact h2
    · exact h3⟩
  have hlt3 := box_lt h3
  clear h1 h2 h3 hb1
  refine wp_region_noPanic ?_
  refine wp_region_L (S := fun _ W => Bxs [(w.heap.size, (.cells #[.bool b1, .slice a1 l1 c1] 41)), (w.heap.size + 1, (.cells #[.bool b2, .slice a2 l2 c2] 41)), (w.heap.size + 1 + 1, (.cells #[.int .i64 0, .int .i64 0, .bool false, .slice none 0 0, .bool false, .slice none 0 0, .string ⟨#[]⟩, .int .i64 0, .int .i64 0, .string ⟨#[]⟩, .int .i64 0, .bool false, .slice none 0 0, .bool false, .slice none 0 0, .string ⟨#[]⟩, .int .i64 0, .slice none 0 0] 33))] w W) (by kernel_rfl) ?_
  refine wpAnyL_take (T := fun _ => True) (i := 0) (v := ?vva0) rfl (by kernel_rfl) (by kernel_rfl) (by kernel_rfl) (fun _ _ _ h => h) (fun _ _ => Iff.rfl) (fun _ _ _ _ _ => trivial) (Closed.of_B (by kernel_rfl)) (Or.inl ⟨by kernel_rfl, ?hya0⟩) hBd ?resta0
  case hya0 => (intro w _; go_simp; with_reducible rfl)
  go_simp
  refine wpAnyL_take (T := fun W => Bxs [(w.heap.size, (.cells #[.bool b1, .slice a1 l1 c1] 41)), (w.heap.size + 1, (.cells #[.bool b2, .slice a2 l2 c2] 41)), (w.heap.size + 1 + 1, (.cells #[.int .i64 0, .int .i64 0, .bool false, .slice none 0 0, .bool false, .slice none 0 0, .string ⟨#[]⟩, .int .i64 0, .int .i64 0, .string ⟨#[]⟩, .int .i64 0, .bool false, .slice none 0 0, .bool false, .slice none 0 0, .string ⟨#[]⟩, .int .i64 0, .slice none 0 0] 33))] w W) (i := 1) (v := ?vva1) rfl (by kernel_rfl) (by kernel_rfl) (by kernel_rfl) (fun _ _ _ h => h) (fun _ _ => Iff.rfl) (fun _ _ _ _ h => h) (Closed.of_B (by kernel_rfl)) (Or.inl ⟨by kernel_rfl, ?hya1⟩) hBd ?resta1
  case hya1 =>
    intro W hW
    have hx0 := hW.2 ((w.heap.size, (.cells #[.bool b1, .slice a1 l1 c1] 41)) : Nat × Obj) (by simp)
    have dx0x1 := box_cell hx0 1
    simp only [List.getElem?_toArray, List.getElem?_cons_zero, List.getElem?_cons_succ] at dx0x1
    clear hW
    go_simp; with_reducible rfl
  go_simp
  refine wpAnyL_take (T := fun _ => True) (i := 4) (v := ?vva4) rfl (by kernel_rfl) (by kernel_rfl) (by kernel_rfl) (fun _ _ _ h => h) (fun _ _ => Iff.rfl) (fun _ _ _ _ _ => trivial) (Closed.of_B (by kernel_rfl)) (Or.inl ⟨by kernel_rfl, ?hya4⟩) hBd ?resta4
  case hya4 => (intro w _; go_simp; with_reducible rfl)
  go_simp
  refine wpAnyL_take (T := fun W => Bxs [(w.heap.size, (.cells #[.bool b1, .slice a1 l1 c1] 41)), (w.heap.size + 1, (.cells #[.bool b2, .slice a2 l2 c2] 41)), (w.heap.size + 1 + 1, (.cells #[.int .i64 0, .int .i64 0, .bool false, .slice none 0 0, .bool false, .slice none 0 0, .string ⟨#[]⟩, .int .i64 0, .int .i64 0, .string ⟨#[]⟩, .int .i64 0, .bool false, .slice none 0 0, .bool false, .slice none 0 0, .string ⟨#[]⟩, .int .i64 0, .slice none 0 0] 33))] w W) (i := 5) (v := ?vva5) rfl (by kernel_rfl) (by kernel_rfl) (by kernel_rfl) (fun _ _ _ h => h) (fun _ _ => Iff.rfl) (fun _ _ _ _ h => h) (Closed.of_B (by kernel_rfl)) (Or.inl ⟨by kernel_rfl, ?hya5⟩) hBd ?resta5
  case hya5 =>
    intro W hW
    have hx1 := hW.2 ((w.heap.size + 1, (.cells #[.bool b2, .slice a2 l2 c2] 41)) : Nat × Obj) (by simp)
    have dx1x1 := box_cell hx1 1
    simp only [List.getElem?_toArray, List.getElem?_cons_zero, List.getElem?_cons_succ] at dx1x1
    clear hW
    go_simp; with_reducible rfl
  go_simp
  refine wpAnyL_ready (rs := [2]) (by kernel_rfl) (by simp) ?_
  refine AllL.cons rfl (by kernel_rfl) (fun K hK => ?_) AllL.nil
  go_simp
  refine (HO1.out _ hBd.1).mono ?_
  rintro e W1 ⟨vo1, rfl, hv1, hb⟩
  have hB1 := hBd.below hb
  refine hK _ _ ⟨hB1, ?_⟩
  clear hK K
  have hsz1 : w1.heap.size ≤ W1.heap.size := by have := hb.size; simpa using this
  obtain ⟨ao1, co1, rfl, -⟩ := hv1
  generalize (bitsN m1).length = LB1 at *
  clear hb
  refine wpAnyL_take (T := fun _ => True) (i := 3) (v := ?vvb3) rfl (by kernel_rfl) (by kernel_rfl) (by kernel_rfl) (fun _ _ _ h => h) (fun _ _ => Iff.rfl) (fun _ _ _ _ _ => trivial) (Closed.of_B (by kernel_rfl)) (Or.inl ⟨by kernel_rfl, ?hyb3⟩) hB1 ?restb3
  case hyb3 => (intro w _; go_simp; with_reducible rfl)
  go_simp
  refine wpAnyL_ready (rs := [6]) (by kernel_rfl) (by simp) ?_
  refine AllL.cons rfl (by kernel_rfl) (fun K hK => ?_) AllL.nil
  go_simp
  refine (HO2.out _ hB1.1).mono ?_
  rintro e W2 ⟨vo2, rfl, hv2, hb⟩
  have hB2 := hB1.below hb
  refine hK _ _ ⟨hB2, ?_⟩
  clear hK K
  have hsz2 : w1.heap.size ≤ W2.heap.size := Nat.le_trans hsz1 hb.size
  obtain ⟨ao2, co2, rfl, -⟩ := hv2
  generalize (bitsN m2).length = LB2 at *
  have hL1 := HLB1.out
  have hL2 := HLB2.out
  have hs1 : IntKind.i64.wrap ((LB1 : Int) + (LB2 : Int)) = (LB1 : Int) + (LB2 : Int) := IntWalk.i64_in _ (by omega)
  have hs2 : IntKind.i64.wrap ((LB1 : Int) + (LB2 : Int) + 2) = (LB1 : Int) + (LB2 : Int) + 2 := IntWalk.i64_in _ (by omega)
  clear hb
  refine wpAnyL_take (T := fun _ => True) (i := 7) (v := ?vvc7) rfl (by kernel_rfl) (by kernel_rfl) (by kernel_rfl) (fun _ _ _ h => h) (fun _ _ => Iff.rfl) (fun _ _ _ _ _ => trivial) (Closed.of_B (by kernel_rfl)) (Or.inl ⟨by kernel_rfl, ?hyc7⟩) hB2 ?restc7
  case hyc7 => (intro w _; go_simp; with_reducible rfl)
  go_simp
  refine wpAnyL_take (T := fun _ => True) (i := 8) (v := ?vvc8) rfl (by kernel_rfl) (by kernel_rfl) (by kernel_rfl) (fun _ _ _ h => h) (fun _ _ => Iff.rfl) (fun _ _ _ _ _ => trivial) (Closed.of_B (by kernel_rfl)) (Or.inl ⟨by kernel_rfl, ?hyc8⟩) hB2 ?restc8
  case hyc8 => (intro w _; go_simp; with_reducible rfl)
  go_simp
  refine wpAnyL_take (T := fun _ => True) (i := 9) (v := ?vvc9) rfl (by kernel_rfl) (by kernel_rfl) (by kernel_rfl) (fun _ _ _ h => h) (fun _ _ => Iff.rfl) (fun _ _ _ _ _ => trivial) (Closed.of_B (by kernel_rfl)) (Or.inl ⟨by kernel_rfl, ?hyc9⟩) hB2 ?restc9
  case hyc9 => (intro w _; go_simp; with_reducible rfl)
  go_simp
  refine wpAnyL_take (T := fun _ => True) (i := 10) (v := ?vvc10) rfl (by kernel_rfl) (by kernel_rfl) (by kernel_rfl) (fun _ _ _ h => h) (fun _ _ => Iff.rfl) (fun _ _ _ _ _ => trivial) (Closed.of_B (by kernel_rfl)) (Or.inl ⟨by kernel_rfl, ?hyc10⟩) hB2 ?restc10
  case hyc10 => (intro w _; go_simp; with_reducible rfl)
  go_simp
  refine wpAnyL_done (by kernel_rfl) ?_ _
  refine NoPanic.normal ?_
  obtain ⟨n, hn⟩ : ∃ n : Nat, n = LB1 + LB2 + 2 := ⟨_, rfl⟩
  have hnI : (LB1 : Int) + (LB2 : Int) + 2 = (n : Int) := by omega
  try rw [hnI]
  have hn0 : 0 < n := by omega
  have hn1 : n ≤ 400000 := by omega
  clear hs1 hs2 hL1 hL2 hB1 hBd HO1 HO2
  go_upto_region 3 with fail
  try simp only [hnI]
  clear hnI hn
  have hB3 := hB2.drew
  have HSZ1 := Lib.hid (show w1.heap.size ≤ W2.drew.heap.size by simpa using hsz2)
  clear hsz1 hsz2
  clear hB2
  refine wp_region_noPanic ?_
  refine wp_region_L (S := fun _ W => Bxs [(w.heap.size, (.cells #[.bool b1, .slice a1 l1 c1] 41)), (w.heap.size + 1, (.cells #[.bool b2, .slice a2 l2 c2] 41)), (w.heap.size + 1 + 1, (.cells #[.int .i64 0, .int .i64 0, .bool false, .slice none 0 0, .bool false, .slice none 0 0, .string ⟨#[]⟩, .int .i64 0, .int .i64 0, .string ⟨#[]⟩, .int .i64 0, .bool false, .slice none 0 0, .bool false, .slice none 0 0, .string ⟨#[]⟩, .int .i64 0, .slice none 0 0] 33))] w W) (by kernel_rfl) ?_
  refine wpAnyL_take (T := fun W => Bxs [(w.heap.size, (.cells #[.bool b1, .slice a1 l1 c1] 41)), (w.heap.size + 1, (.cells #[.bool b2, .slice a2 l2 c2] 41)), (w.heap.size + 1 + 1, (.cells #[.int .i64 0, .int .i64 0, .bool false, .slice none 0 0, .bool false, .slice none 0 0, .string ⟨#[]⟩, .int .i64 0, .int .i64 0, .string ⟨#[]⟩, .int .i64 0, .bool false, .slice none 0 0, .bool false, .slice none 0 0, .string ⟨#[]⟩, .int .i64 0, .slice none 0 0] 33))] w W) (i := 0) (v := ?vvd0) rfl (by kernel_rfl) (by kernel_rfl) (by kernel_rfl) (fun _ _ _ h => h) (fun _ _ => Iff.rfl) (fun _ _ _ _ h => h) (Closed.of_B (by kernel_rfl)) (Or.inl ⟨by kernel_rfl, ?hyd0⟩) hB3 ?restd0
  case hyd0 =>
    intro W hW
    have hx0 := hW.2 ((w.heap.size, (.cells #[.bool b1, .slice a1 l1 c1] 41)) : Nat × Obj) (by simp)
    have dx0x0 := box_cell hx0 0
    have dx0x1 := box_cell hx0 1
    simp only [List.getElem?_toArray, List.getElem?_cons_zero, List.getElem?_cons_succ] at dx0x0 dx0x1
    clear hW
    go_simp; with_reducible rfl
  go_simp
  refine wpAnyL_take (T := fun _ => True) (i := 1) (v := ?vvd1) rfl (by kernel_rfl) (by kernel_rfl) (by kernel_rfl) (fun _ _ _ h => h) (fun _ _ => Iff.rfl) (fun _ _ _ _ _ => trivial) (Closed.of_B (by kernel_rfl)) (Or.inl ⟨by kernel_rfl, ?hyd1⟩) hB3 ?restd1
  case hyd1 => (intro w _; go_simp; with_reducible rfl)
  go_simp
  refine wpAnyL_take (T := fun W => Bxs [(w.heap.size, (.cells #[.bool b1, .slice a1 l1 c1] 41)), (w.heap.size + 1, (.cells #[.bool b2, .slice a2 l2 c2] 41)), (w.heap.size + 1 + 1, (.cells #[.int .i64 0, .int .i64 0, .bool false, .slice none 0 0, .bool false, .slice none 0 0, .string ⟨#[]⟩, .int .i64 0, .int .i64 0, .string ⟨#[]⟩, .int .i64 0, .bool false, .slice none 0 0, .bool false, .slice none 0 0, .string ⟨#[]⟩, .int .i64 0, .slice none 0 0] 33))] w W) (i := 3) (v := ?vvd3) rfl (by kernel_rfl) (by kernel_rfl) (by kernel_rfl) (fun _ _ _ h => h) (fun _ _ => Iff.rfl) (fun _ _ _ _ h => h) (Closed.of_B (by kernel_rfl)) (Or.inl ⟨by kernel_rfl, ?hyd3⟩) hB3 ?restd3
  case hyd3 =>
    intro W hW
    have hx1 := hW.2 ((w.heap.size + 1, (.cells #[.bool b2, .slice a2 l2 c2] 41)) : Nat × Obj) (by simp)
    have dx1x0 := box_cell hx1 0
    have dx1x1 := box_cell hx1 1
    simp only [List.getElem?_toArray, List.getElem?_cons_zero, List.getElem?_cons_succ] at dx1x0 dx1x1
    clear hW
    go_simp; with_reducible rfl
  go_simp
  refine wpAnyL_take (T := fun _ => True) (i := 4) (v := ?vvd4) rfl (by kernel_rfl) (by kernel_rfl) (by kernel_rfl) (fun _ _ _ h => h) (fun _ _ => Iff.rfl) (fun _ _ _ _ _ => trivial) (Closed.of_B (by kernel_rfl)) (Or.inl ⟨by kernel_rfl, ?hyd4⟩) hB3 ?restd4
  case hyd4 => (intro w _; go_simp; with_reducible rfl)
  go_simp
  refine wpAnyL_ready (rs := [2]) (by kernel_rfl) (by simp) ?_
  refine AllL.cons rfl (by kernel_rfl) (fun K hK => ?_) AllL.nil
  go_simp
  refine (places_any _ x n _ (HX.out _ hB3.1) (Nat.le_trans nx (by omega)) (by omega)).mono ?_
  rintro e W4 ⟨va, rfl, hoa, hb⟩
  have hB4 := hB3.below hb
  refine hK _ _ ⟨hB4, ?_⟩
  clear hK K
  have HOA := Lib.hid (show OwnB w1.heap.size n va W4 from hoa.base HSZ1.out)
  clear hb hoa
  refine wpAnyL_ready (rs := [5]) (by kernel_rfl) (by simp) ?_
  refine AllL.cons rfl (by kernel_rfl) (fun K hK => ?_) AllL.nil
  go_simp
  refine (places_any _ y n _ (HY.out _ hB4.1) (Nat.le_trans ny (by omega)) (by omega)).mono ?_
  rintro e W5 ⟨vb, rfl, hob, hb⟩
  have hB5 := hB4.below hb
  refine hK _ _ ⟨hB5, ?_⟩
  clear hK K
  have HOA5 := Lib.hid (HOA.out.below hb)
  have HBL5 := Lib.hid hob.bools
  clear hb hob HOA
  refine wpAnyL_take (T := fun _ => True) (i := 6) (v := ?vve6) rfl (by kernel_rfl) (by kernel_rfl) (by kernel_rfl) (fun _ _ _ h => h) (fun _ _ => Iff.rfl) (fun _ _ _ _ _ => trivial) (Closed.of_B (by kernel_rfl)) (Or.inl ⟨by kernel_rfl, ?hye6⟩) hB5 ?reste6
  case hye6 => (intro w _; go_simp; with_reducible rfl)
  go_simp
  refine wpAnyL_take (T := fun _ => True) (i := 7) (v := ?vve7) rfl (by kernel_rfl) (by kernel_rfl) (by kernel_rfl) (fun _ _ _ h => h) (fun _ _ => Iff.rfl) (fun _ _ _ _ _ => trivial) (Closed.of_B (by kernel_rfl)) (Or.inl ⟨by kernel_rfl, ?hye7⟩) hB5 ?reste7
  case hye7 => (intro w _; go_simp; with_reducible rfl)
  go_simp
  refine wpAnyL_done (by kernel_rfl) ?_ _
  refine NoPanic.normal ?_
  obtain ⟨g, cg, rfl, hg0⟩ := ownB_form HOA5.out hn0
  skip
  have hgN : w.heap.size + 1 + 1 < g := by omega
  obtain ⟨B, hBg, hBw, HOB⟩ : ∃ B, B ≤ g ∧ w.heap.size + 1 + 1 < B ∧ Hid (OwnB B n (.slice (some ⟨g, 0, none⟩) n cg) W5) := ⟨w1.heap.size, hg0, hlt3, HOA5⟩
  clear HOA5 hB3 hB4 hlt3 hg0
  obtain ⟨ab, cb, rfl⟩ := boolsL_slice HBL5.out
  obtain ⟨vb, hvb⟩ : ∃ vb, vb = Value.slice ab n cb := ⟨_, rfl⟩
  rw [← hvb] at HBL5
  try rw [← hvb]
  have HVB := Lib.hid hvb
  clear hvb
  go_wp2
  go_loopg [43] n (fun q s43 wr => ∃ k : Nat, k ≤ n ∧ n - k ≤ q ∧ s43 = .int .i64 k ∧ OwnB B n (.slice (some ⟨g, 0, none⟩) n cg) wr ∧ BoolsL n vb wr ∧ Bxs [(w.heap.size, (.cells #[.bool b1, .slice a1 l1 c1] 41)), (w.heap.size + 1, (.cells #[.bool b2, .slice a2 l2 c2] 41)), (w.heap.size + 1 + 1, (.cells #[.int .i64 0, .int .i64 0, .bool false, .slice none 0 0, .bool false, .slice none 0 0, .string ⟨#[]⟩, .int .i64 0, .int .i64 0, .string ⟨#[]⟩, .int .i64 0, .bool false, .slice none 0 0, .bool false, .slice none 0 0, .string ⟨#[]⟩, .int .i64 0, .slice none 0 0] 33))] w wr)
  case atStart => exact ⟨0, Nat.zero_le _, by omega, rfl, HOB.out, HBL5.out, hB5⟩
  case round =>
    clear HOB HBL5 hB5
    obtain ⟨k, hk, hq, rfl, ho, hbl, hB⟩ := hrel
    by_cases hkn : k < n
    · skip
      obtain ⟨bq, oq, cq, yb, he, hcb⟩ := hbl.cell hkn
      obtain rfl : vb = _ := he
      obtain ⟨⟨xa, hca⟩, hf0, hg0, hset⟩ := ho.store hkn
      have hkI : (k : Int) < (n : Int) := by omega
      have HSETA := Lib.hid hset
      have HBs := Lib.hid hB
      have HBL := Lib.hid hbl
      clear hB hbl ho hset
      cases xa
      · cases yb
        · have HSET := Lib.hid (HSETA.out false)
          have HBN := Lib.hid (bxs_set HBs.out (g := g) (j := k) (by omega) (by intro x hx; simp only [List.mem_cons, List.not_mem_nil, or_false] at hx; rcases hx with rfl | rfl | rfl <;> simp only <;> omega) (.bool false))
          have HBLN := Lib.hid (HBL.out.setB ⟨g, k, none⟩ false)
          clear HSETA HBs HBL
          go_wp2
          go_roundg (n - (k + 1))
          case measure => omega
          case rel => exact ⟨k + 1, by omega, by omega, by go_num, HSET.out, HBLN.out, HBN.out⟩
        · have HSET := Lib.hid (HSETA.out false)
          have HBN := Lib.hid (bxs_set HBs.out (g := g) (j := k) (by omega) (by intro x hx; simp only [List.mem_cons, List.not_mem_nil, or_false] at hx; rcases hx with rfl | rfl | rfl <;> simp only <;> omega) (.bool false))
          have HBLN := Lib.hid (HBL.out.setB ⟨g, k, none⟩ false)
          clear HSETA HBs HBL
          go_wp2
          go_roundg (n - (k + 1))
          case measure => omega
          case rel => exact ⟨k + 1, by omega, by omega, by go_num, HSET.out, HBLN.out, HBN.out⟩
      · cases yb
        · have HSET := Lib.hid (HSETA.out false)
          have HBN := Lib.hid (bxs_set HBs.out (g := g) (j := k) (by omega) (by intro x hx; simp only [List.mem_cons, List.not_mem_nil, or_false] at hx; rcases hx with rfl | rfl | rfl <;> simp only <;> omega) (.bool false))
          have HBLN := Lib.hid (HBL.out.setB ⟨g, k, none⟩ false)
          clear HSETA HBs HBL
          go_wp2
          go_roundg (n - (k + 1))
          case measure => omega
          case rel => exact ⟨k + 1, by omega, by omega, by go_num, HSET.out, HBLN.out, HBN.out⟩
        · have HSET := Lib.hid (HSETA.out true)
          have HBN := Lib.hid (bxs_set HBs.out (g := g) (j := k) (by omega) (by intro x hx; simp only [List.mem_cons, List.not_mem_nil, or_false] at hx; rcases hx with rfl | rfl | rfl <;> simp only <;> omega) (.bool true))
          have HBLN := Lib.hid (HBL.out.setB ⟨g, k, none⟩ true)
          clear HSETA HBs HBL
          go_wp2
          go_roundg (n - (k + 1))
          case measure => omega
          case rel => exact ⟨k + 1, by omega, by omega, by go_num, HSET.out, HBLN.out, HBN.out⟩
    · have hkI : ¬ ((k : Int) < (n : Int)) := by omega
      have hgs : g < wr.heap.size := ownB_lt ho hn0
      have hF := Lib.hid (fromPlaces_any g n cg w.heap.size wr (ho.base (by omega)) hgs hB.1.size hn0 hn1)
      have h3 := hB.2 (w.heap.size + 1 + 1, (.cells #[.int .i64 0, .int .i64 0, .bool false, .slice none 0 0, .bool false, .slice none 0 0, .string ⟨#[]⟩, .int .i64 0, .int .i64 0, .string ⟨#[]⟩, .int .i64 0, .bool false, .slice none 0 0, .bool false, .slice none 0 0, .string ⟨#[]⟩, .int .i64 0, .slice none 0 0] 33)) (by simp)
      have hlt3 := box_lt h3
      have hbw := hB.1
      clear ho hbl hB
      go_wp2_with fail
      refine hF.out.mono ?_
      rintro e w5 ⟨v5, zz, rfl, hI5, hl5, hbut, hbel⟩
      replace h3 := (hbut _ hlt3 (by omega)).trans h3
      have HIn := Lib.hid (integer_any v5 zz w5 hI5 hl5)
      have hbw5 : Below w.heap.size w w5 := hbw.trans hbel
      clear hI5 hl5 hbut hbel hF hbw
      go_wp2_with fail
      refine HIn.out.mono ?_
      rintro e w6 ⟨v6, rfl, hS, hb6⟩
      replace h3 := (hb6.block _ (box_lt h3)).trans h3
      have HSV := Lib.hid hS
      obtain ⟨cs, rfl, hlen, hone⟩ := stepOf_cells hS
      clear hS
      go_wp2_with (refine wpL_store (cells := cs.toArray) stStep h3 (by rfl) (by simpa using hlen) (by simpa using hone) (by rfl) (by rfl) ?_)
      have hs := setRow_facts h3 cs.toArray
      exact bodyPost_ret (results_cell rfl stStep rfl hs.1 (by simpa using hlen)) rfl ⟨_, _, rfl, StepOf.other HSV.out h3 noU_zero hs.2.1, hs.2.2 _ _ (by omega) (ext_trans hbw5 hb6)⟩

set_option maxRecDepth 100000 in
set_option maxHeartbeats 4000000 in
theorem bits15_any (xv yv : Value) (x y : Int) (w : World) (hx : IntAt w xv x) (hy : IntAt w yv y) (nx : (dig x.natAbs).length ≤ 1000) (ny : (dig y.natAbs).length ≤ 1000) :
    Calls Tryd.prog 32 #[.int .i64 15, xv, yv] w fun e w' => SomeStep w e w' := by
  have HX := Lib.hid (fun W (h : Below w.heap.size w W) => hx.below h)
  have HY := Lib.hid (fun W (h : Below w.heap.size w W) => hy.below h)
  obtain ⟨b1, v1, m1, rfl, hm1, hz1⟩ := hx
  obtain ⟨b2, v2, m2, rfl, hm2, hz2⟩ := hy
  have hzm1 : x.natAbs = m1 := by rw [← hz1, ZI_abs]
  have hzm2 : y.natAbs = m2 := by rw [← hz2, ZI_abs]
  have HO1 := Lib.hid (fun W (h : Below w.heap.size w W) => Ones_any _ m1 W (hm1.below h) (by rw [← hzm1]; omega))
  have HO2 := Lib.hid (fun W (h : Below w.heap.size w W) => Ones_any _ m2 W (hm2.below h) (by rw [← hzm2]; omega))
  obtain ⟨a1, c1, rfl⟩ := hm1.slice
  obtain ⟨a2, c2, rfl⟩ := hm2.slice
  have HLB1 := Lib.hid (show (bitsN m1).length ≤ 100000 from Nat.le_trans (bits_dig m1) (by rw [hzm1] at nx; omega))
  have HLB2 := Lib.hid (show (bitsN m2).length ≤ 100000 from Nat.le_trans (bits_dig m2) (by rw [hzm2] at ny; omega))
  clear hm1 hm2 hz1 hz2 hzm1 hzm2
  generalize (dig m1).length = l1 at *
  generalize (dig m2).length = l2 at *
  have hal := alloc3 w (.cells #[.bool b1, .slice a1 l1 c1] 41) (.cells #[.bool b2, .slice a2 l2 c2] 41) (.cells #[.int .i64 0, .int .i64 0, .bool false, .slice none 0 0, .bool false, .slice none 0 0, .string ⟨#[]⟩, .int .i64 0, .int .i64 0, .string ⟨#[]⟩, .int .i64 0, .bool false, .slice none 0 0, .bool false, .slice none 0 0, .string ⟨#[]⟩, .int .i64 0, .slice none 0 0] 33)
  go_enter Tryd.func32, Tryd.ntmps32
  go_upto_region 1 with fail
  generalize (((w.alloc (.cells #[.bool b1, .slice a1 l1 c1] 41)).alloc (.cells #[.bool b2, .slice a2 l2 c2] 41)).alloc (.cells #[.int .i64 0, .int .i64 0, .bool false, .slice none 0 0, .bool false, .slice none 0 0, .string ⟨#[]⟩, .int .i64 0, .int .i64 0, .string ⟨#[]⟩, .int .i64 0, .bool false, .slice none 0 0, .bool false, .slice none 0 0, .string ⟨#[]⟩, .int .i64 0, .slice none 0 0] 33)) = w1 at *
  obtain ⟨hb1, h1, h2, h3⟩ := hal
  skip
  go_upto_region 2 with fail
  have hBd : Bxs [(w.heap.size, (.cells #[.bool b1, .slice a1 l1 c1] 41)), (w.heap.size + 1, (.cells #[.bool b2, .slice a2 l2 c2] 41)), (w.heap.size + 1 + 1, (.cells #[.int .i64 0, .int .i64 0, .bool false, .slice none 0 0, .bool false, .slice none 0 0, .string ⟨#[]⟩, .int .i64 0, .int .i64 0, .string ⟨#[]⟩, .int .i64 0, .bool false, .slice none 0 0, .bool false, .slice none 0 0, .string ⟨#[]⟩, .int .i64 0, .slice none 0 0] 33))] w w1.drew := ⟨hb1.drew, fun x hx => by
    simp only [List.mem_cons, List.not_mem_nil, or_false] at hx
    rcases hx with rfl | rfl | rfl
    · exact h1
    · exact h2
    · exact h3⟩
  have hlt3 := box_lt h3
  clear h1 h2 h3 hb1
  refine wp_region_noPanic ?_
  refine wp_region_L (S := fun _ W => Bxs [(w.heap.size, (.cells #[.bool b1, .slice a1 l1 c1] 41)), (w.heap.size + 1, (.cells #[.bool b2, .slice a2 l2 c2] 41)), (w.heap.size + 1 + 1, (.cells #[.int .i64 0, .int .i64 0, .bool false, .slice none 0 0, .bool false, .slice none 0 0, .string ⟨#[]⟩, .int .i64 0, .int .i64 0, .string ⟨#[]⟩, .int .i64 0, .bool false, .slice none 0 0, .bool false, .slice none 0 0, .string ⟨#[]⟩, .int .i64 0, .slice none 0 0] 33))] w W) (by kernel_rfl) ?_
  refine wpAnyL_take (T := fun _ => True) (i := 0) (v := ?vva0) rfl (by kernel_rfl) (by kernel_rfl) (by kernel_rfl) (fun _ _ _ h => h) (fun _ _ => Iff.rfl) (fun _ _ _ _ _ => trivial) (Closed.of_B (by kernel_rfl)) (Or.inl ⟨by kernel_rfl, ?hya0⟩) hBd ?resta0
  case hya0 => (intro w _; go_simp; with_reducible rfl)
  go_simp
  refine wpAnyL_take (T := fun W => Bxs [(w.heap.size, (.cells #[.bool b1, .slice a1 l1 c1] 41)), (w.heap.size + 1, (.cells #[.bool b2, .slice a2 l2 c2] 41)), (w.heap.size + 1 + 1, (.cells #[.int .i64 0, .int .i64 0, .bool false, .slice none 0 0, .bool false, .slice none 0 0, .string ⟨#[]⟩, .int .i64 0, .int .i64 0, .string ⟨#[]⟩, .int .i64 0, .bool false, .slice none 0 0, .bool false, .slice none 0 0, .string ⟨#[]⟩, .int .i64 0, .slice none 0 0] 33))] w W) (i := 1) (v := ?vva1) rfl (by kernel_rfl) (by kernel_rfl) (by kernel_rfl) (fun _ _ _ h => h) (fun _ _ => Iff.rfl) (fun _ _ _ _ h => h) (Closed.of_B (by kernel_rfl)) (Or.inl ⟨by kernel_rfl, ?hya1⟩) hBd ?resta1
  case hya1 =>
    intro W hW
    have hx0 := hW.2 ((w.heap.size, (.cells #[.bool b1, .slice a1 l1 c1] 41)) : Nat × Obj) (by simp)
    have dx0x1 := box_cell hx0 1
    simp only [List.getElem?_toArray, List.getElem?_cons_zero, List.getElem?_cons_succ] at dx0x1
    clear hW
    go_simp; with_reducible rfl
  go_simp
  refine wpAnyL_take (T := fun _ => True) (i := 4) (v := ?vva4) rfl (by kernel_rfl) (by kernel_rfl) (by kernel_rfl) (fun _ _ _ h => h) (fun _ _ => Iff.rfl) (fun _ _ _ _ _ => trivial) (Closed.of_B (by kernel_rfl)) (Or.inl ⟨by kernel_rfl, ?hya4⟩) hBd ?resta4
  case hya4 => (intro w _; go_simp; with_reducible rfl)
  go_simp
  refine wpAnyL_take (T := fun W => Bxs [(w.heap.size, (.cells #[.bool b1, .slice a1 l1 c1] 41)), (w.heap.size + 1, (.cells #[.bool b2, .slice a2 l2 c2] 41)), (w.heap.size + 1 + 1, (.cells #[.int .i64 0, .int .i64 0, .bool false, .slice none 0 0, .bool false, .slice none 0 0, .string ⟨#[]⟩, .int .i64 0, .int .i64 0, .string ⟨#[]⟩, .int .i64 0, .bool false, .slice none 0 0, .bool false, .slice none 0 0, .string ⟨#[]⟩, .int .i64 0, .slice none 0 0] 33))] w W) (i := 5) (v := ?vva5) rfl (by kernel_rfl) (by kernel_rfl) (by kernel_rfl) (fun _ _ _ h => h) (fun _ _ => Iff.rfl) (fun _ _ _ _ h => h) (Closed.of_B (by kernel_rfl)) (Or.inl ⟨by kernel_rfl, ?hya5⟩) hBd ?resta5
  case hya5 =>
    intro W hW
    have hx1 := hW.2 ((w.heap.size + 1, (.cells #[.bool b2, .slice a2 l2 c2] 41)) : Nat × Obj) (by simp)
    have dx1x1 := box_cell hx1 1
    simp only [List.getElem?_toArray, List.getElem?_cons_zero, List.getElem?_cons_succ] at dx1x1
    clear hW
    go_simp; with_reducible rfl
  go_simp
  refine wpAnyL_ready (rs := [2]) (by kernel_rfl) (by simp) ?_
  refine AllL.cons rfl (by kernel_rfl) (fun K hK => ?_) AllL.nil
  go_simp
  refine (HO1.out _ hBd.1).mono ?_
  rintro e W1 ⟨vo1, rfl, hv1, hb⟩
  have hB1 := hBd.below hb
  refine hK _ _ ⟨hB1, ?_⟩
  clear hK K
  have hsz1 : w1.heap.size ≤ W1.heap.size := by have := hb.size; simpa using this
  obtain ⟨ao1, co1, rfl, -⟩ := hv1
  generalize (bitsN m1).length = LB1 at *
  clear hb
  refine wpAnyL_take (T := fun _ => True) (i := 3) (v := ?vvb3) rfl (by kernel_rfl) (by kernel_rfl) (by kernel_rfl) (fun _ _ _ h => h) (fun _ _ => Iff.rfl) (fun _ _ _ _ _ => trivial) (Closed.of_B (by kernel_rfl)) (Or.inl ⟨by kernel_rfl, ?hyb3⟩) hB1 ?restb3
  case hyb3 => (intro w _; go_simp; with_reducible rfl)
  go_simp
  refine wpAnyL_ready (rs := [6]) (by kernel_rfl) (by simp) ?_
  refine AllL.cons rfl (by kernel_rfl) (fun K hK => ?_) AllL.nil
  go_simp
  refine (HO2.out _ hB1.1).mono ?_
  rintro e W2 ⟨vo2, rfl, hv2, hb⟩
  have hB2 := hB1.below hb
  refine hK _ _ ⟨hB2, ?_⟩
  clear hK K
  have hsz2 : w1.heap.size ≤ W2.heap.size := Nat.le_trans hsz1 hb.size
  obtain ⟨ao2, co2, rfl, -⟩ := hv2
  generalize (bitsN m2).length = LB2 at *
  have hL1 := HLB1.out
  have hL2 := HLB2.out
  have hs1 : IntKind.i64.wrap ((LB1 : Int) + (LB2 : Int)) = (LB1 : Int) + (LB2 : Int) := IntWalk.i64_in _ (by omega)
  have hs2 : IntKind.i64.wrap ((LB1 : Int) + (LB2 : Int) + 2) = (LB1 : Int) + (LB2 : Int) + 2 := IntWalk.i64_in _ (by omega)
  clear hb
  refine wpAnyL_take (T := fun _ => True) (i := 7) (v := ?vvc7) rfl (by kernel_rfl) (by kernel_rfl) (by kernel_rfl) (fun _ _ _ h => h) (fun _ _ => Iff.rfl) (fun _ _ _ _ _ => trivial) (Closed.of_B (by kernel_rfl)) (Or.inl ⟨by kernel_rfl, ?hyc7⟩) hB2 ?restc7
  case hyc7 => (intro w _; go_simp; with_reducible rfl)
  go_simp
  refine wpAnyL_take (T := fun _ => True) (i := 8) (v := ?vvc8) rfl (by kernel_rfl) (by kernel_rfl) (by kernel_rfl) (fun _ _ _ h => h) (fun _ _ => Iff.rfl) (fun _ _ _ _ _ => trivial) (Closed.of_B (by kernel_rfl)) (Or.inl ⟨by kernel_rfl, ?hyc8⟩) hB2 ?restc8
  case hyc8 => (intro w _; go_simp; with_reducible rfl)
  go_simp
  refine wpAnyL_take (T := fun _ => True) (i := 9) (v := ?vvc9) rfl (by kernel_rfl) (by kernel_rfl) (by kernel_rfl) (fun _ _ _ h => h) (fun _ _ => Iff.rfl) (fun _ _ _ _ _ => trivial) (Closed.of_B (by kernel_rfl)) (Or.inl ⟨by kernel_rfl, ?hyc9⟩) hB2 ?restc9
  case hyc9 => (intro w _; go_simp; with_reducible rfl)
  go_simp
  refine wpAnyL_take (T := fun _ => True) (i := 10) (v := ?vvc10) rfl (by kernel_rfl) (by kernel_rfl) (by kernel_rfl) (fun _ _ _ h => h) (fun _ _ => Iff.rfl) (fun _ _ _ _ _ => trivial) (Closed.of_B (by kernel_rfl)) (Or.inl ⟨by kernel_rfl, ?hyc10⟩) hB2 ?restc10
  case hyc10 => (intro w _; go_simp; with_reducible rfl)
  go_simp
  refine wpAnyL_done (by kernel_rfl) ?_ _
  refine NoPanic.normal ?_
  obtain ⟨n, hn⟩ : ∃ n : Nat, n = LB1 + LB2 + 2 := ⟨_, rfl⟩
  have hnI : (LB1 : Int) + (LB2 : Int) + 2 = (n : Int) := by omega
  try rw [hnI]
  have hn0 : 0 < n := by omega
  have hn1 : n ≤ 400000 := by omega
  clear hs1 hs2 hL1 hL2 hB1 hBd HO1 HO2
  go_upto_region 3 with fail
  try simp only [hnI]
  clear hnI hn
  have hB3 := hB2.drew
  have HSZ1 := Lib.hid (show w1.heap.size ≤ W2.drew.heap.size by simpa using hsz2)
  clear hsz1 hsz2
  clear hB2
  refine wp_region_noPanic ?_
  refine wp_region_L (S := fun _ W => Bxs [(w.heap.size, (.cells #[.bool b1, .slice a1 l1 c1] 41)), (w.heap.size + 1, (.cells #[.bool b2, .slice a2 l2 c2] 41)), (w.heap.size + 1 + 1, (.cells #[.int .i64 0, .int .i64 0, .bool false, .slice none 0 0, .bool false, .slice none 0 0, .string ⟨#[]⟩, .int .i64 0, .int .i64 0, .string ⟨#[]⟩, .int .i64 0, .bool false, .slice none 0 0, .bool false, .slice none 0 0, .string ⟨#[]⟩, .int .i64 0, .slice none 0 0] 33))] w W) (by kernel_rfl) ?_
  refine wpAnyL_take (T := fun W => Bxs [(w.heap.size, (.cells #[.bool b1, .slice a1 l1 c1] 41)), (w.heap.size + 1, (.cells #[.bool b2, .slice a2 l2 c2] 41)), (w.heap.size + 1 + 1, (.cells #[.int .i64 0, .int .i64 0, .bool false, .slice none 0 0, .bool false, .slice none 0 0, .string ⟨#[]⟩, .int .i64 0, .int .i64 0, .string ⟨#[]⟩, .int .i64 0, .bool false, .slice none 0 0, .bool false, .slice none 0 0, .string ⟨#[]⟩, .int .i64 0, .slice none 0 0] 33))] w W) (i := 0) (v := ?vvd0) rfl (by kernel_rfl) (by kernel_rfl) (by kernel_rfl) (fun _ _ _ h => h) (fun _ _ => Iff.rfl) (fun _ _ _ _ h => h) (Closed.of_B (by kernel_rfl)) (Or.inl ⟨by kernel_rfl, ?hyd0⟩) hB3 ?restd0
  case hyd0 =>
    intro W hW
    have hx0 := hW.2 ((w.heap.size, (.cells #[.bool b1, .slice a1 l1 c1] 41)) : Nat × Obj) (by simp)
    have dx0x0 := box_cell hx0 0
    have dx0x1 := box_cell hx0 1
    simp only [List.getElem?_toArray, List.getElem?_cons_zero, List.getElem?_cons_succ] at dx0x0 dx0x1
    clear hW
    go_simp; with_reducible rfl
  go_simp
  refine wpAnyL_take (T := fun _ => True) (i := 1) (v := ?vvd1) rfl (by kernel_rfl) (by kernel_rfl) (by kernel_rfl) (fun _ _ _ h => h) (fun _ _ => Iff.rfl) (fun _ _ _ _ _ => trivial) (Closed.of_B (by kernel_rfl)) (Or.inl ⟨by kernel_rfl, ?hyd1⟩) hB3 ?restd1
  case hyd1 => (intro w _; go_simp; with_reducible rfl)
  go_simp
  refine wpAnyL_take (T := fun W => Bxs [(w.heap.size, (.cells #[.bool b1, .slice a1 l1 c1] 41)), (w.heap.size + 1, (.cells #[.bool b2, .slice a2 l2 c2] 41)), (w.heap.size + 1 + 1, (.cells #[.int .i64 0, .int .i64 0, .bool false, .slice none 0 0, .bool false, .slice none 0 0, .string ⟨#[]⟩, .int .i64 0, .int .i64 0, .string ⟨#[]⟩, .int .i64 0, .bool false, .slice none 0 0, .bool false, .slice none 0 0, .string ⟨#[]⟩, .int .i64 0, .slice none 0 0] 33))] w W) (i := 3) (v := ?vvd3) rfl (by kernel_rfl) (by kernel_rfl) (by kernel_rfl) (fun _ _ _ h => h) (fun _ _ => Iff.rfl) (fun _ _ _ _ h => h) (Closed.of_B (by kernel_rfl)) (Or.inl ⟨by kernel_rfl, ?hyd3⟩) hB3 ?restd3
  case hyd3 =>
    intro W hW
    have hx1 := hW.2 ((w.heap.size + 1, (.cells #[.bool b2, .slice a2 l2 c2] 41)) : Nat × Obj) (by simp)
    have dx1x0 := box_cell hx1 0
    have dx1x1 := box_cell hx1 1
    simp only [List.getElem?_toArray, List.getElem?_cons_zero, List.getElem?_cons_succ] at dx1x0 dx1x1
    clear hW
    go_simp; with_reducible rfl
  go_simp
  refine wpAnyL_take (T := fun _ => True) (i := 4) (v := ?vvd4) rfl (by kernel_rfl) (by kernel_rfl) (by kernel_rfl) (fun _ _ _ h => h) (fun _ _ => Iff.rfl) (fun _ _ _ _ _ => trivial) (Closed.of_B (by kernel_rfl)) (Or.inl ⟨by kernel_rfl, ?hyd4⟩) hB3 ?restd4
  case hyd4 => (intro w _; go_simp; with_reducible rfl)
  go_simp
  refine wpAnyL_ready (rs := [2]) (by kernel_rfl) (by simp) ?_
  refine AllL.cons rfl (by kernel_rfl) (fun K hK => ?_) AllL.nil
  go_simp
  refine (places_any _ x n _ (HX.out _ hB3.1) (Nat.le_trans nx (by omega)) (by omega)).mono ?_
  rintro e W4 ⟨va, rfl, hoa, hb⟩
  have hB4 := hB3.below hb
  refine hK _ _ ⟨hB4, ?_⟩
  clear hK K
  have HOA := Lib.hid (show OwnB w1.heap.size n va W4 from hoa.base HSZ1.out)
  clear hb hoa
  refine wpAnyL_ready (rs := [5]) (by kernel_rfl) (by simp) ?_
  refine AllL.cons rfl (by kernel_rfl) (fun K hK => ?_) AllL.nil
  go_simp
  refine (places_any _ y n _ (HY.out _ hB4.1) (Nat.le_trans ny (by omega)) (by omega)).mono ?_
  rintro e W5 ⟨vb, rfl, hob, hb⟩
  have hB5 := hB4.below hb
  refine hK _ _ ⟨hB5, ?_⟩
  clear hK K
  have HOA5 := Lib.hid (HOA.out.below hb)
  have HBL5 := Lib.hid hob.bools
  clear hb hob HOA
  refine wpAnyL_take (T := fun _ => True) (i := 6) (v := ?vve6) rfl (by kernel_rfl) (by kernel_rfl) (by kernel_rfl) (fun _ _ _ h => h) (fun _ _ => Iff.rfl) (fun _ _ _ _ _ => trivial) (Closed.of_B (by kernel_rfl)) (Or.inl ⟨by kernel_rfl, ?hye6⟩) hB5 ?reste6
  case hye6 => (intro w _; go_simp; with_reducible rfl)
  go_simp
  refine wpAnyL_take (T := fun _ => True) (i := 7) (v := ?vve7) rfl (by kernel_rfl) (by kernel_rfl) (by kernel_rfl) (fun _ _ _ h => h) (fun _ _ => Iff.rfl) (fun _ _ _ _ _ => trivial) (Closed.of_B (by kernel_rfl)) (Or.inl ⟨by kernel_rfl, ?hye7⟩) hB5 ?reste7
  case hye7 => (intro w _; go_simp; with_reducible rfl)
  go_simp
  refine wpAnyL_done (by kernel_rfl) ?_ _
  refine NoPanic.normal ?_
  obtain ⟨g, cg, rfl, hg0⟩ := ownB_form HOA5.out hn0
  skip
  have hgN : w.heap.size + 1 + 1 < g := by omega
  obtain ⟨B, hBg, hBw, HOB⟩ : ∃ B, B ≤ g ∧ w.heap.size + 1 + 1 < B ∧ Hid (OwnB B n (.slice (some ⟨g, 0, none⟩) n cg) W5) := ⟨w1.heap.size, hg0, hlt3, HOA5⟩
  clear HOA5 hB3 hB4 hlt3 hg0
  obtain ⟨ab, cb, rfl⟩ := boolsL_slice HBL5.out
  obtain ⟨vb, hvb⟩ : ∃ vb, vb = Value.slice ab n cb := ⟨_, rfl⟩
  rw [← hvb] at HBL5
  try rw [← hvb]
  have HVB := Lib.hid hvb
  clear hvb
  go_wp2
  go_loopg [43] n (fun q s43 wr => ∃ k : Nat, k ≤ n ∧ n - k ≤ q ∧ s43 = .int .i64 k ∧ OwnB B n (.slice (some ⟨g, 0, none⟩) n cg) wr ∧ BoolsL n vb wr ∧ Bxs [(w.heap.size, (.cells #[.bool b1, .slice a1 l1 c1] 41)), (w.heap.size + 1, (.cells #[.bool b2, .slice a2 l2 c2] 41)), (w.heap.size + 1 + 1, (.cells #[.int .i64 0, .int .i64 0, .bool false, .slice none 0 0, .bool false, .slice none 0 0, .string ⟨#[]⟩, .int .i64 0, .int .i64 0, .string ⟨#[]⟩, .int .i64 0, .bool false, .slice none 0 0, .bool false, .slice none 0 0, .string ⟨#[]⟩, .int .i64 0, .slice none 0 0] 33))] w wr)
  case atStart => exact ⟨0, Nat.zero_le _, by omega, rfl, HOB.out, HBL5.out, hB5⟩
  case round =>
    clear HOB HBL5 hB5
    obtain ⟨k, hk, hq, rfl, ho, hbl, hB⟩ := hrel
    by_cases hkn : k < n
    · skip
      obtain ⟨bq, oq, cq, yb, he, hcb⟩ := hbl.cell hkn
      obtain rfl : vb = _ := he
      obtain ⟨⟨xa, hca⟩, hf0, hg0, hset⟩ := ho.store hkn
      have hkI : (k : Int) < (n : Int) := by omega
      have HSETA := Lib.hid hset
      have HBs := Lib.hid hB
      have HBL := Lib.hid hbl
      clear hB hbl ho hset
      cases xa
      · cases yb
        · have HSET := Lib.hid (HSETA.out false)
          have HBN := Lib.hid (bxs_set HBs.out (g := g) (j := k) (by omega) (by intro x hx; simp only [List.mem_cons, List.not_mem_nil, or_false] at hx; rcases hx with rfl | rfl | rfl <;> simp only <;> omega) (.bool false))
          have HBLN := Lib.hid (HBL.out.setB ⟨g, k, none⟩ false)
          clear HSETA HBs HBL
          go_wp2
          go_roundg (n - (k + 1))
          case measure => omega
          case rel => exact ⟨k + 1, by omega, by omega, by go_num, HSET.out, HBLN.out, HBN.out⟩
        · have HSET := Lib.hid (HSETA.out true)
          have HBN := Lib.hid (bxs_set HBs.out (g := g) (j := k) (by omega) (by intro x hx; simp only [List.mem_cons, List.not_mem_nil, or_false] at hx; rcases hx with rfl | rfl | rfl <;> simp only <;> omega) (.bool true))
          have HBLN := Lib.hid (HBL.out.setB ⟨g, k, none⟩ true)
          clear HSETA HBs HBL
          go_wp2
          go_roundg (n - (k + 1))
          case measure => omega
          case rel => exact ⟨k + 1, by omega, by omega, by go_num, HSET.out, HBLN.out, HBN.out⟩
      · cases yb
        · have HSET := Lib.hid (HSETA.out true)
          have HBN := Lib.hid (bxs_set HBs.out (g := g) (j := k) (by omega) (by intro x hx; simp only [List.mem_cons, List.not_mem_nil, or_false] at hx; rcases hx with rfl | rfl | rfl <;> simp only <;> omega) (.bool true))
          have HBLN := Lib.hid (HBL.out.setB ⟨g, k, none⟩ true)
          clear HSETA HBs HBL
          go_wp2
          go_roundg (n - (k + 1))
          case measure => omega
          case rel => exact ⟨k + 1, by omega, by omega, by go_num, HSET.out, HBLN.out, HBN.out⟩
        · have HSET := Lib.hid (HSETA.out true)
          have HBN := Lib.hid (bxs_set HBs.out (g := g) (j := k) (by omega) (by intro x hx; simp only [List.mem_cons, List.not_mem_nil, or_false] at hx; rcases hx with rfl | rfl | rfl <;> simp only <;> omega) (.bool true))
          have HBLN := Lib.hid (HBL.out.setB ⟨g, k, none⟩ true)
          clear HSETA HBs HBL
          go_wp2
          go_roundg (n - (k + 1))
          case measure => omega
          case rel => exact ⟨k + 1, by omega, by omega, by go_num, HSET.out, HBLN.out, HBN.out⟩
    · have hkI : ¬ ((k : Int) < (n : Int)) := by omega
      have hgs : g < wr.heap.size := ownB_lt ho hn0
      have hF := Lib.hid (fromPlaces_any g n cg w.heap.size wr (ho.base (by omega)) hgs hB.1.size hn0 hn1)
      have h3 := hB.2 (w.heap.size + 1 + 1, (.cells #[.int .i64 0, .int .i64 0, .bool false, .slice none 0 0, .bool false, .slice none 0 0, .string ⟨#[]⟩, .int .i64 0, .int .i64 0, .string ⟨#[]⟩, .int .i64 0, .bool false, .slice none 0 0, .bool false, .slice none 0 0, .string ⟨#[]⟩, .int .i64 0, .slice none 0 0] 33)) (by simp)
      have hlt3 := box_lt h3
      have hbw := hB.1
      clear ho hbl hB
      go_wp2_with fail
      refine hF.out.mono ?_
      rintro e w5 ⟨v5, zz, rfl, hI5, hl5, hbut, hbel⟩
      replace h3 := (hbut _ hlt3 (by omega)).trans h3
      have HIn := Lib.hid (integer_any v5 zz w5 hI5 hl5)
      have hbw5 : Below w.heap.size w w5 := hbw.trans hbel
      clear hI5 hl5 hbut hbel hF hbw
      go_wp2_with fail
      refine HIn.out.mono ?_
      rintro e w6 ⟨v6, rfl, hS, hb6⟩
      replace h3 := (hb6.block _ (box_lt h3)).trans h3
      have HSV := Lib.hid hS
      obtain ⟨cs, rfl, hlen, hone⟩ := stepOf_cells hS
      clear hS
      go_wp2_with (refine wpL_store (cells := cs.toArray) stStep h3 (by rfl) (by simpa using hlen) (by simpa using hone) (by rfl) (by rfl) ?_)
      have hs := setRow_facts h3 cs.toArray
      exact bodyPost_ret (results_cell rfl stStep rfl hs.1 (by simpa using hlen)) rfl ⟨_, _, rfl, StepOf.other HSV.out h3 noU_zero hs.2.1, hs.2.2 _ _ (by omega) (ext_trans hbw5 hb6)⟩

set_option maxRecDepth 100000 in
set_option maxHeartbeats 4000000 in
theorem bits16_any (xv yv : Value) (x y : Int) (w : World) (hx : IntAt w xv x) (hy : IntAt w yv y) (nx : (dig x.natAbs).length ≤ 1000) (ny : (dig y.natAbs).length ≤ 1000) :
    Calls Tryd.prog 32 #[.int .i64 16, xv, yv] w fun e w' => SomeStep w e w' := by
  have HX := Lib.hid (fun W (h : Below w.heap.size w W) => hx.below h)
  have HY := Lib.hid (fun W (h : Below w.heap.size w W) => hy.below h)
  obtain ⟨b1, v1, m1, rfl, hm1, hz1⟩ := hx
  obtain ⟨b2, v2, m2, rfl, hm2, hz2⟩ := hy
  have hzm1 : x.natAbs = m1 := by rw [← hz1, ZI_abs]
  have hzm2 : y.natAbs = m2 := by rw [← hz2, ZI_abs]
  have HO1 := Lib.hid (fun W (h : Below w.heap.size w W) => Ones_any _ m1 W (hm1.below h) (by rw [← hzm1]; omega))
  have HO2 := Lib.hid (fun W (h : Below w.heap.size w W) => Ones_any _ m2 W (hm2.below h) (by rw [← hzm2]; omega))
  obtain ⟨a1, c1, rfl⟩ := hm1.slice
  obtain ⟨a2, c2, rfl⟩ := hm2.slice
  have HLB1 := Lib.hid (show (bitsN m1).length ≤ 100000 from Nat.le_trans (bits_dig m1) (by rw [hzm1] at nx; omega))
  have HLB2 := Lib.hid (show (bitsN m2).length ≤ 100000 from Nat.le_trans (bits_dig m2) (by rw [hzm2] at ny; omega))
  clear hm1 hm2 hz1 hz2 hzm1 hzm2
  generalize (dig m1).length = l1 at *
  generalize (dig m2).length = l2 at *
  have hal := alloc3 w (.cells #[.bool b1, .slice a1 l1 c1] 41) (.cells #[.bool b2, .slice a2 l2 c2] 41) (.cells #[.int .i64 0, .int .i64 0, .bool false, .slice none 0 0, .bool false, .slice none 0 0, .string ⟨#[]⟩, .int .i64 0, .int .i64 0, .string ⟨#[]⟩, .int .i64 0, .bool false, .slice none 0 0, .bool false, .slice none 0 0, .string ⟨#[]⟩, .int .i64 0, .slice none 0 0] 33)
  go_enter Tryd.func32, Tryd.ntmps32
  go_upto_region 1 with fail
  generalize (((w.alloc (.cells #[.bool b1, .slice a1 l1 c1] 41)).alloc (.cells #[.bool b2, .slice a2 l2 c2] 41)).alloc (.cells #[.int .i64 0, .int .i64 0, .bool false, .slice none 0 0, .bool false, .slice none 0 0, .string ⟨#[]⟩, .int .i64 0, .int .i64 0, .string ⟨#[]⟩, .int .i64 0, .bool false, .slice none 0 0, .bool false, .slice none 0 0, .string ⟨#[]⟩, .int .i64 0, .slice none 0 0] 33)) = w1 at *
  obtain ⟨hb1, h1, h2, h3⟩ := hal
  skip
  go_upto_region 2 with fail
  have hBd : Bxs [(w.heap.size, (.cells #[.bool b1, .slice a1 l1 c1] 41)), (w.heap.size + 1, (.cells #[.bool b2, .slice a2 l2 c2] 41)), (w.heap.size + 1 + 1, (.cells #[.int .i64 0, .int .i64 0, .bool false, .slice none 0 0, .bool false, .slice none 0 0, .string ⟨#[]⟩, .int .i64 0, .int .i64 0, .string ⟨#[]⟩, .int .i64 0, .bool false, .slice none 0 0, .bool false, .slice none 0 0, .string ⟨#[]⟩, .int .i64 0, .slice none 0 0] 33))] w w1.drew := ⟨hb1.drew, fun x hx => by
    simp only [List.mem_cons, List.not_mem_nil, or_false] at hx
    rcases hx with rfl | rfl | rfl
    · exact h1
    · exact h2
    · exact h3⟩
  have hlt3 := box_lt h3
  clear h1 h2 h3 hb1
  refine wp_region_noPanic ?_
  refine wp_region_L (S := fun _ W => Bxs [(w.heap.size, (.cells #[.bool b1, .slice a1 l1 c1] 41)), (w.heap.size + 1, (.cells #[.bool b2, .slice a2 l2 c2] 41)), (w.heap.size + 1 + 1, (.cells #[.int .i64 0, .int .i64 0, .bool false, .slice none 0 0, .bool false, .slice none 0 0, .string ⟨#[]⟩, .int .i64 0, .int .i64 0, .string ⟨#[]⟩, .int .i64 0, .bool false, .slice none 0 0, .bool false, .slice none 0 0, .string ⟨#[]⟩, .int .i64 0, .slice none 0 0] 33))] w W) (by kernel_rfl) ?_
  refine wpAnyL_take (T := fun _ => True) (i := 0) (v := ?vva0) rfl (by kernel_rfl) (by kernel_rfl) (by kernel_rfl) (fun _ _ _ h => h) (fun _ _ => Iff.rfl) (fun _ _ _ _ _ => trivial) (Closed.of_B (by kernel_rfl)) (Or.inl ⟨by kernel_rfl, ?hya0⟩) hBd ?resta0
  case hya0 => (intro w _; go_simp; with_reducible rfl)
  go_simp
  refine wpAnyL_take (T := fun W => Bxs [(w.heap.size, (.cells #[.bool b1, .slice a1 l1 c1] 41)), (w.heap.size + 1, (.cells #[.bool b2, .slice a2 l2 c2] 41)), (w.heap.size + 1 + 1, (.cells #[.int .i64 0, .int .i64 0, .bool false, .slice none 0 0, .bool false, .slice none 0 0, .string ⟨#[]⟩, .int .i64 0, .int .i64 0, .string ⟨#[]⟩, .int .i64 0, .bool false, .slice none 0 0, .bool false, .slice none 0 0, .string ⟨#[]⟩, .int .i64 0, .slice none 0 0] 33))] w W) (i := 1) (v := ?vva1) rfl (by kernel_rfl) (by kernel_rfl) (by kernel_rfl) (fun _ _ _ h => h) (fun _ _ => Iff.rfl) (fun _ _ _ _ h => h) (Closed.of_B (by kernel_rfl)) (Or.inl ⟨by kernel_rfl, ?hya1⟩) hBd ?resta1
  case hya1 =>
    intro W hW
    have hx0 := hW.2 ((w.heap.size, (.cells #[.bool b1, .slice a1 l1 c1] 41)) : Nat × Obj) (by simp)
    have dx0x1 := box_cell hx0 1
    simp only [List.getElem?_toArray, List.getElem?_cons_zero, List.getElem?_cons_succ] at dx0x1
    clear hW
    go_simp; with_reducible rfl
  go_simp
  refine wpAnyL_take (T := fun _ => True) (i := 4) (v := ?vva4) rfl (by kernel_rfl) (by kernel_rfl) (by kernel_rfl) (fun _ _ _ h => h) (fun _ _ => Iff.rfl) (fun _ _ _ _ _ => trivial) (Closed.of_B (by kernel_rfl)) (Or.inl ⟨by kernel_rfl, ?hya4⟩) hBd ?resta4
  case hya4 => (intro w _; go_simp; with_reducible rfl)
  go_simp
  refine wpAnyL_take (T := fun W => Bxs [(w.heap.size, (.cells #[.bool b1, .slice a1 l1 c1] 41)), (w.heap.size + 1, (.cells #[.bool b2, .slice a2 l2 c2] 41)), (w.heap.size + 1 + 1, (.cells #[.int .i64 0, .int .i64 0, .bool false, .slice none 0 0, .bool false, .slice none 0 0, .string ⟨#[]⟩, .int .i64 0, .int .i64 0, .string ⟨#[]⟩, .int .i64 0, .bool false, .slice none 0 0, .bool false, .slice none 0 0, .string ⟨#[]⟩, .int .i64 0, .slice none 0 0] 33))] w W) (i := 5) (v := ?vva5) rfl (by kernel_rfl) (by kernel_rfl) (by kernel_rfl) (fun _ _ _ h => h) (fun _ _ => Iff.rfl) (fun _ _ _ _ h => h) (Closed.of_B (by kernel_rfl)) (Or.inl ⟨by kernel_rfl, ?hya5⟩) hBd ?resta5
  case hya5 =>
    intro W hW
    have hx1 := hW.2 ((w.heap.size + 1, (.cells #[.bool b2, .slice a2 l2 c2] 41)) : Nat × Obj) (by simp)
    have dx1x1 := box_cell hx1 1
    simp only [List.getElem?_toArray, List.getElem?_cons_zero, List.getElem?_cons_succ] at dx1x1
    clear hW
    go_simp; with_reducible rfl
  go_simp
  refine wpAnyL_ready (rs := [2]) (by kernel_rfl) (by simp) ?_
  refine AllL.cons rfl (by kernel_rfl) (fun K hK => ?_) AllL.nil
  go_simp
  refine (HO1.out _ hBd.1).mono ?_
  rintro e W1 ⟨vo1, rfl, hv1, hb⟩
  have hB1 := hBd.below hb
  refine hK _ _ ⟨hB1, ?_⟩
  clear hK K
  have hsz1 : w1.heap.size ≤ W1.heap.size := by have := hb.size; simpa using this
  obtain ⟨ao1, co1, rfl, -⟩ := hv1
  generalize (bitsN m1).length = LB1 at *
  clear hb
  refine wpAnyL_take (T := fun _ => True) (i := 3) (v := ?vvb3) rfl (by kernel_rfl) (by kernel_rfl) (by kernel_rfl) (fun _ _ _ h => h) (fun _ _ => Iff.rfl) (fun _ _ _ _ _ => trivial) (Closed.of_B (by kernel_rfl)) (Or.inl ⟨by kernel_rfl, ?hyb3⟩) hB1 ?restb3
  case hyb3 => (intro w _; go_simp; with_reducible rfl)
  go_simp
  refine wpAnyL_ready (rs := [6]) (by kernel_rfl) (by simp) ?_
  refine AllL.cons rfl (by kernel_rfl) (fun K hK => ?_) AllL.nil
  go_simp
  refine (HO2.out _ hB1.1).mono ?_
  rintro e W2 ⟨vo2, rfl, hv2, hb⟩
  have hB2 := hB1.below hb
  refine hK _ _ ⟨hB2, ?_⟩
  clear hK K
  have hsz2 : w1.heap.size ≤ W2.heap.size := Nat.le_trans hsz1 hb.size
  obtain ⟨ao2, co2, rfl, -⟩ := hv2
  generalize (bitsN m2).length = LB2 at *
  have hL1 := HLB1.out
  have hL2 := HLB2.out
  have hs1 : IntKind.i64.wrap ((LB1 : Int) + (LB2 : Int)) = (LB1 : Int) + (LB2 : Int) := IntWalk.i64_in _ (by omega)
  have hs2 : IntKind.i64.wrap ((LB1 : Int) + (LB2 : Int) + 2) = (LB1 : Int) + (LB2 : Int) + 2 := IntWalk.i64_in _ (by omega)
  clear hb
  refine wpAnyL_take (T := fun _ => True) (i := 7) (v := ?vvc7) rfl (by kernel_rfl) (by kernel_rfl) (by kernel_rfl) (fun _ _ _ h => h) (fun _ _ => Iff.rfl) (fun _ _ _ _ _ => trivial) (Closed.of_B (by kernel_rfl)) (Or.inl ⟨by kernel_rfl, ?hyc7⟩) hB2 ?restc7
  case hyc7 => (intro w _; go_simp; with_reducible rfl)
  go_simp
  refine wpAnyL_take (T := fun _ => True) (i := 8) (v := ?vvc8) rfl (by kernel_rfl) (by kernel_rfl) (by kernel_rfl) (fun _ _ _ h => h) (fun _ _ => Iff.rfl) (fun _ _ _ _ _ => trivial) (Closed.of_B (by kernel_rfl)) (Or.inl ⟨by kernel_rfl, ?hyc8⟩) hB2 ?restc8
  case hyc8 => (intro w _; go_simp; with_reducible rfl)
  go_simp
  refine wpAnyL_take (T := fun _ => True) (i := 9) (v := ?vvc9) rfl (by kernel_rfl) (by kernel_rfl) (by kernel_rfl) (fun _ _ _ h => h) (fun _ _ => Iff.rfl) (fun _ _ _ _ _ => trivial) (Closed.of_B (by kernel_rfl)) (Or.inl ⟨by kernel_rfl, ?hyc9⟩) hB2 ?restc9
  case hyc9 => (intro w _; go_simp; with_reducible rfl)
  go_simp
  refine wpAnyL_take (T := fun _ => True) (i := 10) (v := ?vvc10) rfl (by kernel_rfl) (by kernel_rfl) (by kernel_rfl) (fun _ _ _ h => h) (fun _ _ => Iff.rfl) (fun _ _ _ _ _ => trivial) (Closed.of_B (by kernel_rfl)) (Or.inl ⟨by kernel_rfl, ?hyc10⟩) hB2 ?restc10
  case hyc10 => (intro w _; go_simp; with_reducible rfl)
  go_simp
  refine wpAnyL_done (by kernel_rfl) ?_ _
  refine NoPanic.normal ?_
  obtain ⟨n, hn⟩ : ∃ n : Nat, n = LB1 + LB2 + 2 := ⟨_, rfl⟩
  have hnI : (LB1 : Int) + (LB2 : Int) + 2 = (n : Int) := by omega
  try rw [hnI]
  have hn0 : 0 < n := by omega
  have hn1 : n ≤ 400000 := by omega
  clear hs1 hs2 hL1 hL2 hB1 hBd HO1 HO2
  go_upto_region 3 with fail
  try simp only [hnI]
  clear hnI hn
  have hB3 := hB2.drew
  have HSZ1 := Lib.hid (show w1.heap.size ≤ W2.drew.heap.size by simpa using hsz2)
  clear hsz1 hsz2
  clear hB2
  refine wp_region_noPanic ?_
  refine wp_region_L (S := fun _ W => Bxs [(w.heap.size, (.cells #[.bool b1, .slice a1 l1 c1] 41)), (w.heap.size + 1, (.cells #[.bool b2, .slice a2 l2 c2] 41)), (w.heap.size + 1 + 1, (.cells #[.int .i64 0, .int .i64 0, .bool false, .slice none 0 0, .bool false, .slice none 0 0, .string ⟨#[]⟩, .int .i64 0, .int .i64 0, .string ⟨#[]⟩, .int .i64 0, .bool false, .slice none 0 0, .bool false, .slice none 0 0, .string ⟨#[]⟩, .int .i64 0, .slice none 0 0] 33))] w W) (by kernel_rfl) ?_
  refine wpAnyL_take (T := fun W => Bxs [(w.heap.size, (.cells #[.bool b1, .slice a1 l1 c1] 41)), (w.heap.size + 1, (.cells #[.bool b2, .slice a2 l2 c2] 41)), (w.heap.size + 1 + 1, (.cells #[.int .i64 0, .int .i64 0, .bool false, .slice none 0 0, .bool false, .slice none 0 0, .string ⟨#[]⟩, .int .i64 0, .int .i64 0, .string ⟨#[]⟩, .int .i64 0, .bool false, .slice none 0 0, .bool false, .slice none 0 0, .string ⟨#[]⟩, .int .i64 0, .slice none 0 0] 33))] w W) (i := 0) (v := ?vvd0) rfl (by kernel_rfl) (by kernel_rfl) (by kernel_rfl) (fun _ _ _ h => h) (fun _ _ => Iff.rfl) (fun _ _ _ _ h => h) (Closed.of_B (by kernel_rfl)) (Or.inl ⟨by kernel_rfl, ?hyd0⟩) hB3 ?restd0
  case hyd0 =>
    intro W hW
    have hx0 := hW.2 ((w.heap.size, (.cells #[.bool b1, .slice a1 l1 c1] 41)) : Nat × Obj) (by simp)
    have dx0x0 := box_cell hx0 0
    have dx0x1 := box_cell hx0 1
    simp only [List.getElem?_toArray, List.getElem?_cons_zero, List.getElem?_cons_succ] at dx0x0 dx0x1
    clear hW
    go_simp; with_reducible rfl
  go_simp
  refine wpAnyL_take (T := fun _ => True) (i := 1) (v := ?vvd1) rfl (by kernel_rfl) (by kernel_rfl) (by kernel_rfl) (fun _ _ _ h => h) (fun _ _ => Iff.rfl) (fun _ _ _ _ _ => trivial) (Closed.of_B (by kernel_rfl)) (Or.inl ⟨by kernel_rfl, ?hyd1⟩) hB3 ?restd1
  case hyd1 => (intro w _; go_simp; with_reducible rfl)
  go_simp
  refine wpAnyL_take (T := fun W => Bxs [(w.heap.size, (.cells #[.bool b1, .slice a1 l1 c1] 41)), (w.heap.size + 1, (.cells #[.bool b2, .slice a2 l2 c2] 41)), (w.heap.size + 1 + 1, (.cells #[.int .i64 0, .int .i64 0, .bool false, .slice none 0 0, .bool false, .slice none 0 0, .string ⟨#[]⟩, .int .i64 0, .int .i64 0, .string ⟨#[]⟩, .int .i64 0, .bool false, .slice none 0 0, .bool false, .slice none 0 0, .string ⟨#[]⟩, .int .i64 0, .slice none 0 0] 33))] w W) (i := 3) (v := ?vvd3) rfl (by kernel_rfl) (by kernel_rfl) (by kernel_rfl) (fun _ _ _ h => h) (fun _ _ => Iff.rfl) (fun _ _ _ _ h => h) (Closed.of_B (by kernel_rfl)) (Or.inl ⟨by kernel_rfl, ?hyd3⟩) hB3 ?restd3
  case hyd3 =>
    intro W hW
    have hx1 := hW.2 ((w.heap.size + 1, (.cells #[.bool b2, .slice a2 l2 c2] 41)) : Nat × Obj) (by simp)
    have dx1x0 := box_cell hx1 0
    have dx1x1 := box_cell hx1 1
    simp only [List.getElem?_toArray, List.getElem?_cons_zero, List.getElem?_cons_succ] at dx1x0 dx1x1
    clear hW
    go_simp; with_reducible rfl
  go_simp
  refine wpAnyL_take (T := fun _ => True) (i := 4) (v := ?vvd4) rfl (by kernel_rfl) (by kernel_rfl) (by kernel_rfl) (fun _ _ _ h => h) (fun _ _ => Iff.rfl) (fun _ _ _ _ _ => trivial) (Closed.of_B (by kernel_rfl)) (Or.inl ⟨by kernel_rfl, ?hyd4⟩) hB3 ?restd4
  case hyd4 => (intro w _; go_simp; with_reducible rfl)
  go_simp
  refine wpAnyL_ready (rs := [2]) (by kernel_rfl) (by simp) ?_
  refine AllL.cons rfl (by kernel_rfl) (fun K hK => ?_) AllL.nil
  go_simp
  refine (places_any _ x n _ (HX.out _ hB3.1) (Nat.le_trans nx (by omega)) (by omega)).mono ?_
  rintro e W4 ⟨va, rfl, hoa, hb⟩
  have hB4 := hB3.below hb
  refine hK _ _ ⟨hB4, ?_⟩
  clear hK K
  have HOA := Lib.hid (show OwnB w1.heap.size n va W4 from hoa.base HSZ1.out)
  clear hb hoa
  refine wpAnyL_ready (rs := [5]) (by kernel_rfl) (by simp) ?_
  refine AllL.cons rfl (by kernel_rfl) (fun K hK => ?_) AllL.nil
  go_simp
  refine (places_any _ y n _ (HY.out _ hB4.1) (Nat.le_trans ny (by omega)) (by omega)).mono ?_
  rintro e W5 ⟨vb, rfl, hob, hb⟩
  have hB5 := hB4.below hb
  refine hK _ _ ⟨hB5, ?_⟩
  clear hK K
  have HOA5 := Lib.hid (HOA.out.below hb)
  have HBL5 := Lib.hid hob.bools
  clear hb hob HOA
  refine wpAnyL_take (T := fun _ => True) (i := 6) (v := ?vve6) rfl (by kernel_rfl) (by kernel_rfl) (by kernel_rfl) (fun _ _ _ h => h) (fun _ _ => Iff.rfl) (fun _ _ _ _ _ => trivial) (Closed.of_B (by kernel_rfl)) (Or.inl ⟨by kernel_rfl, ?hye6⟩) hB5 ?reste6
  case hye6 => (intro w _; go_simp; with_reducible rfl)
  go_simp
  refine wpAnyL_take (T := fun _ => True) (i := 7) (v := ?vve7) rfl (by kernel_rfl) (by kernel_rfl) (by kernel_rfl) (fun _ _ _ h => h) (fun _ _ => Iff.rfl) (fun _ _ _ _ _ => trivial) (Closed.of_B (by kernel_rfl)) (Or.inl ⟨by kernel_rfl, ?hye7⟩) hB5 ?reste7
  case hye7 => (intro w _; go_simp; with_reducible rfl)
  go_simp
  refine wpAnyL_done (by kernel_rfl) ?_ _
  refine NoPanic.normal ?_
  obtain ⟨g, cg, rfl, hg0⟩ := ownB_form HOA5.out hn0
  skip
  have hgN : w.heap.size + 1 + 1 < g := by omega
  obtain ⟨B, hBg, hBw, HOB⟩ : ∃ B, B ≤ g ∧ w.heap.size + 1 + 1 < B ∧ Hid (OwnB B n (.slice (some ⟨g, 0, none⟩) n cg) W5) := ⟨w1.heap.size, hg0, hlt3, HOA5⟩
  clear HOA5 hB3 hB4 hlt3 hg0
  obtain ⟨ab, cb, rfl⟩ := boolsL_slice HBL5.out
  obtain ⟨vb, hvb⟩ : ∃ vb, vb = Value.slice ab n cb := ⟨_, rfl⟩
  rw [← hvb] at HBL5
  try rw [← hvb]
  have HVB := Lib.hid hvb
  clear hvb
  go_wp2
  go_loopg [43] n (fun q s43 wr => ∃ k : Nat, k ≤ n ∧ n - k ≤ q ∧ s43 = .int .i64 k ∧ OwnB B n (.slice (some ⟨g, 0, none⟩) n cg) wr ∧ BoolsL n vb wr ∧ Bxs [(w.heap.size, (.cells #[.bool b1, .slice a1 l1 c1] 41)), (w.heap.size + 1, (.cells #[.bool b2, .slice a2 l2 c2] 41)), (w.heap.size + 1 + 1, (.cells #[.int .i64 0, .int .i64 0, .bool false, .slice none 0 0, .bool false, .slice none 0 0, .string ⟨#[]⟩, .int .i64 0, .int .i64 0, .string ⟨#[]⟩, .int .i64 0, .bool false, .slice none 0 0, .bool false, .slice none 0 0, .string ⟨#[]⟩, .int .i64 0, .slice none 0 0] 33))] w wr)
  case atStart => exact ⟨0, Nat.zero_le _, by omega, rfl, HOB.out, HBL5.out, hB5⟩
  case round =>
    clear HOB HBL5 hB5
    obtain ⟨k, hk, hq, rfl, ho, hbl, hB⟩ := hrel
    by_cases hkn : k < n
    · skip
      obtain ⟨bq, oq, cq, yb, he, -⟩ := hbl.cell hkn
      obtain rfl : vb = _ := he
      have hkI : (k : Int) < (n : Int) := by omega
      go_upto_region 8 with fail
      have hBd := hB.drew
      have HOd := Lib.hid (show OwnB B n (.slice (some ⟨g, 0, none⟩) n cg) wr.drew from ho)
      have HBd := Lib.hid (show BoolsL n (.slice (some ⟨bq, oq, none⟩) n cq) wr.drew from hbl)
      clear hB ho hbl
      refine wp_region_noPanic ?_
      refine wp_region_L (S := fun _ W => Bxs [(w.heap.size, (.cells #[.bool b1, .slice a1 l1 c1] 41)), (w.heap.size + 1, (.cells #[.bool b2, .slice a2 l2 c2] 41)), (w.heap.size + 1 + 1, (.cells #[.int .i64 0, .int .i64 0, .bool false, .slice none 0 0, .bool false, .slice none 0 0, .string ⟨#[]⟩, .int .i64 0, .int .i64 0, .string ⟨#[]⟩, .int .i64 0, .bool false, .slice none 0 0, .bool false, .slice none 0 0, .string ⟨#[]⟩, .int .i64 0, .slice none 0 0] 33))] w W) (by kernel_rfl) ?_
      refine wpAnyL_take (T := fun _ => True) (i := 0) (v := ?vvx0) rfl (by kernel_rfl) (by kernel_rfl) (by kernel_rfl) (fun _ _ _ h => h) (fun _ _ => Iff.rfl) (fun _ _ _ _ _ => trivial) (Closed.of_B (by kernel_rfl)) (Or.inl ⟨by kernel_rfl, ?hyx0⟩) hBd ?restx0
      case hyx0 => (intro w _; go_simp; with_reducible rfl)
      go_simp
      refine wpAnyL_take (T := fun _ => True) (i := 1) (v := ?vvx1) rfl (by kernel_rfl) (by kernel_rfl) (by kernel_rfl) (fun _ _ _ h => h) (fun _ _ => Iff.rfl) (fun _ _ _ _ _ => trivial) (Closed.of_B (by kernel_rfl)) (Or.inl ⟨by kernel_rfl, ?hyx1⟩) hBd ?restx1
      case hyx1 => (intro w _; go_simp; with_reducible rfl)
      go_simp
      refine wpAnyL_take (T := fun _ => True) (i := 2) (v := ?vvx2) rfl (by kernel_rfl) (by kernel_rfl) (by kernel_rfl) (fun _ _ _ h => h) (fun _ _ => Iff.rfl) (fun _ _ _ _ _ => trivial) (Closed.of_B (by kernel_rfl)) (Or.inl ⟨by kernel_rfl, ?hyx2⟩) hBd ?restx2
      case hyx2 => (intro w _; go_simp; with_reducible rfl)
      go_simp
      refine wpAnyL_take (T := fun _ => True) (i := 3) (v := ?vvx3) rfl (by kernel_rfl) (by kernel_rfl) (by kernel_rfl) (fun _ _ _ h => h) (fun _ _ => Iff.rfl) (fun _ _ _ _ _ => trivial) (Closed.of_B (by kernel_rfl)) (Or.inl ⟨by kernel_rfl, ?hyx3⟩) hBd ?restx3
      case hyx3 => (intro w _; go_simp; with_reducible rfl)
      go_simp
      refine wpAnyL_take (T := fun _ => True) (i := 6) (v := ?vvx6) rfl (by kernel_rfl) (by kernel_rfl) (by kernel_rfl) (fun _ _ _ h => h) (fun _ _ => Iff.rfl) (fun _ _ _ _ _ => trivial) (Closed.of_B (by kernel_rfl)) (Or.inl ⟨by kernel_rfl, ?hyx6⟩) hBd ?restx6
      case hyx6 => (intro w _; go_simp; with_reducible rfl)
      go_simp
      refine wpAnyL_take (T := fun _ => True) (i := 7) (v := ?vvx7) rfl (by kernel_rfl) (by kernel_rfl) (by kernel_rfl) (fun _ _ _ h => h) (fun _ _ => Iff.rfl) (fun _ _ _ _ _ => trivial) (Closed.of_B (by kernel_rfl)) (Or.inl ⟨by kernel_rfl, ?hyx7⟩) hBd ?restx7
      case hyx7 => (intro w _; go_simp; with_reducible rfl)
      go_simp
      refine wpAnyL_rows (R := fun i v _ W => match i with | 4 => v = .pointer (some ⟨g, k, none⟩) | 5 => ∃ b : Bool, v = .bool b | 8 => v = .pointer (some ⟨bq, oq + k, none⟩) | 9 => ∃ b : Bool, v = .bool b | 10 => ∃ b : Bool, v = .bool b | 11 => v = .pointer (some ⟨g, k, none⟩) | _ => True) (I := fun _ _ W => Bxs [(w.heap.size, (.cells #[.bool b1, .slice a1 l1 c1] 41)), (w.heap.size + 1, (.cells #[.bool b2, .slice a2 l2 c2] 41)), (w.heap.size + 1 + 1, (.cells #[.int .i64 0, .int .i64 0, .bool false, .slice none 0 0, .bool false, .slice none 0 0, .string ⟨#[]⟩, .int .i64 0, .int .i64 0, .string ⟨#[]⟩, .int .i64 0, .bool false, .slice none 0 0, .bool false, .slice none 0 0, .string ⟨#[]⟩, .int .i64 0, .slice none 0 0] 33))] w W ∧ OwnB B n (.slice (some ⟨g, 0, none⟩) n cg) W ∧ BoolsL n (.slice (some ⟨bq, oq, none⟩) n cq) W) [((4, some 51, []), []), ((5, some 52, [4]), [(4, some 51, [])]), ((8, some 55, []), []), ((9, some 56, [8]), [(8, some 55, [])]), ((10, some 57, [5, 9]), [(5, some 52, [4]), (9, some 56, [8])]), ((11, some 58, []), []), ((12, none, [10, 11]), [(10, some 57, [5, 9]), (11, some 58, [])])] (by kernel_rfl) (by decide) (fun _ _ _ h => h.1) (fun _ => ⟨hBd, HOd.out, HBd.out⟩) ?tabx ?finx
      case tabx =>
        refine TabAll.cons rfl (by kernel_rfl) (fun L vs W hsz hcl hn hd hdn hI K hK => ?_) ?_
        · simp only [putsD, Act.put, List.setIfInBounds_toArray, List.set_cons_zero, List.set_cons_succ] at hK ⊢
          clear hd hdn
          go_simp
          refine hK _ (.pointer (some ⟨g, k, none⟩)) _ (by rfl) (fun i u l hij hL h => h) rfl hI
        refine TabAll.cons rfl (by kernel_rfl) (fun L vs W hsz hcl hn hd hdn hI K hK => ?_) ?_
        · simp only [putsD, Act.put, List.setIfInBounds_toArray, List.set_cons_zero, List.set_cons_succ] at hK ⊢
          have r4 := hd.1
          generalize hv4 : vs 4 = v4 at *
          have HV4 := Lib.hid hv4
          clear hv4
          clear hd hdn
          have q4 : v4 = .pointer (some ⟨g, k, none⟩) := r4
          clear r4
          subst q4
          obtain ⟨⟨y, hy⟩, -, -, -⟩ := hI.2.1.store hkn
          go_simp
          refine hK _ (.bool y) _ (by rfl) (fun i u l hij hL h => h) ⟨_, rfl⟩ hI
        refine TabAll.cons rfl (by kernel_rfl) (fun L vs W hsz hcl hn hd hdn hI K hK => ?_) ?_
        · simp only [putsD, Act.put, List.setIfInBounds_toArray, List.set_cons_zero, List.set_cons_succ] at hK ⊢
          clear hd hdn
          go_simp
          refine hK _ (.pointer (some ⟨bq, oq + k, none⟩)) _ (by rfl) (fun i u l hij hL h => h) rfl hI
        refine TabAll.cons rfl (by kernel_rfl) (fun L vs W hsz hcl hn hd hdn hI K hK => ?_) ?_
        · simp only [putsD, Act.put, List.setIfInBounds_toArray, List.set_cons_zero, List.set_cons_succ] at hK ⊢
          have r8 := hd.1
          generalize hv8 : vs 8 = v8 at *
          have HV8 := Lib.hid hv8
          clear hv8
          clear hd hdn
          have q8 : v8 = .pointer (some ⟨bq, oq + k, none⟩) := r8
          clear r8
          subst q8
          obtain ⟨bq', oq', cq', y, he, hy⟩ := hI.2.2.cell hkn
          simp only [Value.slice.injEq, Option.some.injEq, Addr.mk.injEq, and_true, true_and] at he
          obtain ⟨⟨rfl, rfl⟩, rfl⟩ := he
          go_simp
          refine hK _ (.bool y) _ (by rfl) (fun i u l hij hL h => h) ⟨_, rfl⟩ hI
        refine TabAll.cons rfl (by kernel_rfl) (fun L vs W hsz hcl hn hd hdn hI K hK => ?_) ?_
        · simp only [putsD, Act.put, List.setIfInBounds_toArray, List.set_cons_zero, List.set_cons_succ] at hK ⊢
          have r5 := hd.1
          have r9 := hd.2.1
          generalize hv5 : vs 5 = v5 at *
          have HV5 := Lib.hid hv5
          clear hv5
          generalize hv9 : vs 9 = v9 at *
          have HV9 := Lib.hid hv9
          clear hv9
          clear hd hdn
          obtain ⟨y, q5⟩ : ∃ b : Bool, v5 = .bool b := r5
          obtain ⟨y2, q9⟩ : ∃ b : Bool, v9 = .bool b := r9
          subst q5 q9
          cases y
          all_goals
            cases y2
            all_goals
              go_simp
              refine hK _ _ _ (by rfl) (fun i u l hij hL h => h) ⟨_, rfl⟩ hI
        refine TabAll.cons rfl (by kernel_rfl) (fun L vs W hsz hcl hn hd hdn hI K hK => ?_) ?_
        · simp only [putsD, Act.put, List.setIfInBounds_toArray, List.set_cons_zero, List.set_cons_succ] at hK ⊢
          clear hd hdn
          go_simp
          refine hK _ (.pointer (some ⟨g, k, none⟩)) _ (by rfl) (fun i u l hij hL h => h) rfl hI
        refine TabAll.cons rfl (by kernel_rfl) (fun L vs W hsz hcl hn hd hdn hI K hK => ?_) ?_
        · simp only [putsD, Act.put, List.setIfInBounds_toArray, List.set_cons_zero, List.set_cons_succ] at hK ⊢
          have r10 := hd.1
          have r11 := hd.2.1
          generalize hv10 : vs 10 = v10 at *
          have HV10 := Lib.hid hv10
          clear hv10
          generalize hv11 : vs 11 = v11 at *
          have HV11 := Lib.hid hv11
          clear hv11
          clear hd hdn
          have q11 : v11 = .pointer (some ⟨g, k, none⟩) := r11
          clear r11
          obtain ⟨y, q10⟩ : ∃ b : Bool, v10 = .bool b := r10
          subst q11 q10
          obtain ⟨⟨x0, hx0⟩, hf0, hg0, hset⟩ := hI.2.1.store hkn
          have HSET := Lib.hid (hset y)
          have HI := Lib.hid hI
          clear hset hI
          go_simp
          refine hK _ undef _ (by rfl) (fun i u l hij hL h => h) trivial ⟨bxs_set HI.out.1 (by omega) (by intro x hx; simp only [List.mem_cons, List.not_mem_nil, or_false] at hx; rcases hx with rfl | rfl | rfl <;> simp only <;> omega) (.bool y), HSET.out, HI.out.2.2.setB ⟨g, k, none⟩ y⟩
        exact TabAll.nil
      case finx =>
        intro vs Wz hd L hsz hall hI
        have r4 := hd.1
        have r5 := hd.2.1
        have r8 := hd.2.2.1
        have r9 := hd.2.2.2.1
        have r10 := hd.2.2.2.2.1
        have r11 := hd.2.2.2.2.2.1
        have r12 := hd.2.2.2.2.2.2.1
        simp only [List.map_cons, List.map_nil, putsD, Act.put, List.setIfInBounds_toArray, List.set_cons_zero, List.set_cons_succ]
        generalize vs 4 = v4 at *
        generalize vs 5 = v5 at *
        generalize vs 8 = v8 at *
        generalize vs 9 = v9 at *
        generalize vs 10 = v10 at *
        generalize vs 11 = v11 at *
        generalize vs 12 = v12 at *
        clear hd hall hsz
        refine NoPanic.normal ?_
        have hB5 := hI.1
        have hO5 := hI.2.1
        have hL5 := hI.2.2
        clear hI r4 r5 r8 r9 r10 r11 r12 hBd HOd HBd
        go_wp2
        go_roundg (n - (k + 1))
        case measure => omega
        case rel => exact ⟨k + 1, by omega, by omega, by go_num, hO5, hL5, hB5⟩
    · have hkI : ¬ ((k : Int) < (n : Int)) := by omega
      have hgs : g < wr.heap.size := ownB_lt ho hn0
      have hF := Lib.hid (fromPlaces_any g n cg w.heap.size wr (ho.base (by omega)) hgs hB.1.size hn0 hn1)
      have h3 := hB.2 (w.heap.size + 1 + 1, (.cells #[.int .i64 0, .int .i64 0, .bool false, .slice none 0 0, .bool false, .slice none 0 0, .string ⟨#[]⟩, .int .i64 0, .int .i64 0, .string ⟨#[]⟩, .int .i64 0, .bool false, .slice none 0 0, .bool false, .slice none 0 0, .string ⟨#[]⟩, .int .i64 0, .slice none 0 0] 33)) (by simp)
      have hlt3 := box_lt h3
      have hbw := hB.1
      clear ho hbl hB
      go_wp2_with fail
      refine hF.out.mono ?_
      rintro e w5 ⟨v5, zz, rfl, hI5, hl5, hbut, hbel⟩
      replace h3 := (hbut _ hlt3 (by omega)).trans h3
      have HIn := Lib.hid (integer_any v5 zz w5 hI5 hl5)
      have hbw5 : Below w.heap.size w w5 := hbw.trans hbel
      clear hI5 hl5 hbut hbel hF hbw
      go_wp2_with fail
      refine HIn.out.mono ?_
      rintro e w6 ⟨v6, rfl, hS, hb6⟩
      replace h3 := (hb6.block _ (box_lt h3)).trans h3
      have HSV := Lib.hid hS
      obtain ⟨cs, rfl, hlen, hone⟩ := stepOf_cells hS
      clear hS
      go_wp2_with (refine wpL_store (cells := cs.toArray) stStep h3 (by rfl) (by simpa using hlen) (by simpa using hone) (by rfl) (by rfl) ?_)
      have hs := setRow_facts h3 cs.toArray
      exact bodyPost_ret (results_cell rfl stStep rfl hs.1 (by simpa using hlen)) rfl ⟨_, _, rfl, StepOf.other HSV.out h3 noU_zero hs.2.1, hs.2.2 _ _ (by omega) (ext_trans hbw5 hb6)⟩

end Go.Proofs.YtpmadgmjkljbgaaDoor
