/- Walk: SameBound over equal bounds. -/
import Derived.Test.YtbickehhnkhabaaBd4
namespace Go.Proofs.Ytbickehhnkhabaa
open Go.RowKit

structure BoundAt (w : World) (v0 v1 v2 v3 : Value) (vals rest : List Val) (names : List ByteArray) (named : List Val) : Prop where
  vals : ValsAt w v0 vals
  rest : ValsAt w v1 rest
  names : RowOf Value.string w v2 names
  named : ValsAt w v3 named
theorem BoundAt.below {w w' : World} {v0 v1 v2 v3 : Value} {vals rest : List Val} {names : List ByteArray} {named : List Val} (h : BoundAt w v0 v1 v2 v3 vals rest names named) (hb : Below w.heap.size w w') :
    BoundAt w' v0 v1 v2 v3 vals rest names named := ⟨h.vals.below hb, h.rest.below hb, h.names.below hb, h.named.below hb⟩

set_option maxRecDepth 100000 in
set_option maxHeartbeats 1000000 in
theorem SameBound_any (a0 a1 a2 a3 b0 b1 b2 b3 : Value) (vals rest : List Val) (names : List ByteArray) (named : List Val) (w : World)
    (ha : BoundAt w a0 a1 a2 a3 vals rest names named) (hb : BoundAt w b0 b1 b2 b3 vals rest names named) (g0 : ∀ x ∈ vals, GoodVal w x) (g1 : ∀ x ∈ rest, GoodVal w x) (g3 : ∀ x ∈ named, GoodVal w x) :
    Calls Try.prog 20 #[.agg #[a0, a1, a2, a3], .agg #[b0, b1, b2, b3]] w fun e w' => e = .returned (.bool true) ∧ Below w.heap.size w w' := by
  have C0 := Lib.hid (fun W (h : Below w.heap.size w W) => SameValues_any a0 b0 vals W (ha.vals.below h) (hb.vals.below h) (fun x hx => (g0 x hx).below h))
  have C1 := Lib.hid (fun W (h : Below w.heap.size w W) => SameValues_any a1 b1 rest W (ha.rest.below h) (hb.rest.below h) (fun x hx => (g1 x hx).below h))
  have C2 := Lib.hid (fun W (h : Below w.heap.size w W) => Strings_any a2 b2 names W (ha.names.below h) (hb.names.below h))
  have C3 := Lib.hid (fun W (h : Below w.heap.size w W) => SameValues_any a3 b3 named W (ha.named.below h) (hb.named.below h) (fun x hx => (g3 x hx).below h))
  obtain ⟨p0, q0, rfl⟩ := ha.vals.isSlice
  obtain ⟨p1, q1, rfl⟩ := ha.rest.isSlice
  obtain ⟨p2, m2, q2, rfl⟩ := RowOf.isSlice ha.names
  obtain ⟨p3, q3, rfl⟩ := ha.named.isSlice
  obtain ⟨r0, s0, rfl⟩ := hb.vals.isSlice
  obtain ⟨r1, s1, rfl⟩ := hb.rest.isSlice
  obtain ⟨r2, n2, s2, rfl⟩ := RowOf.isSlice hb.names
  obtain ⟨r3, s3, rfl⟩ := hb.named.isSlice
  clear ha hb g0 g1 g3
  generalize vals.length = k0 at *
  generalize rest.length = k1 at *
  generalize named.length = k3 at *
  have hb1 := ext_alloc w (.cells #[.slice p0 k0 q0, .slice p1 k1 q1, .slice p2 m2 q2, .slice p3 k3 q3] 41)
  have hx1 := heap_new w (.cells #[.slice p0 k0 q0, .slice p1 k1 q1, .slice p2 m2 q2, .slice p3 k3 q3] 41)
  have hb2 := ext_alloc (w.alloc (.cells #[.slice p0 k0 q0, .slice p1 k1 q1, .slice p2 m2 q2, .slice p3 k3 q3] 41)) (.cells #[.slice r0 k0 s0, .slice r1 k1 s1, .slice r2 n2 s2, .slice r3 k3 s3] 41)
  have hx2 := heap_new (w.alloc (.cells #[.slice p0 k0 q0, .slice p1 k1 q1, .slice p2 m2 q2, .slice p3 k3 q3] 41)) (.cells #[.slice r0 k0 s0, .slice r1 k1 s1, .slice r2 n2 s2, .slice r3 k3 s3] 41)
  have hx1' := (hb2.block w.heap.size (by simp)).trans hx1
  have hbb := ext_trans hb1 hb2
  rw [show (w.alloc (.cells #[.slice p0 k0 q0, .slice p1 k1 q1, .slice p2 m2 q2, .slice p3 k3 q3] 41)).heap.size = w.heap.size + 1 by simp] at hx2
  clear hx1 hb1 hb2
  go_enter Try.func20, Try.ntmps20
  go_upto_region 1 with fail
  generalize ((w.alloc (.cells #[.slice p0 k0 q0, .slice p1 k1 q1, .slice p2 m2 q2, .slice p3 k3 q3] 41)).alloc (.cells #[.slice r0 k0 s0, .slice r1 k1 s1, .slice r2 n2 s2, .slice r3 k3 s3] 41)) = w2 at *
  have y0 := box_cell hx1' 0
  have z0 := box_cell hx2 0
  simp only [List.getElem?_toArray, List.getElem?_cons_zero] at y0 z0
  go_wp2_with fail
  refine (C0.out _ hbb).mono ?_
  rintro e w3 ⟨rfl, hb3⟩
  have hx3 := (hb3.block _ (box_lt hx1')).trans hx1'
  have hy3 := (hb3.block _ (box_lt hx2)).trans hx2
  have hbb3 := ext_trans hbb hb3
  clear y0 z0 hx1' hx2 hbb hb3
  have y1 := box_cell hx3 1
  have z1 := box_cell hy3 1
  simp only [List.getElem?_toArray, List.getElem?_cons_zero, List.getElem?_cons_succ] at y1 z1
  go_wp2_with fail
  refine (C1.out _ hbb3).mono ?_
  rintro e w4 ⟨rfl, hb4⟩
  have hx4 := (hb4.block _ (box_lt hx3)).trans hx3
  have hy4 := (hb4.block _ (box_lt hy3)).trans hy3
  have hbb4 := ext_trans hbb3 hb4
  clear y1 z1 hx3 hy3 hbb3 hb4
  have y1 := box_cell hx4 2
  have z1 := box_cell hy4 2
  simp only [List.getElem?_toArray, List.getElem?_cons_zero, List.getElem?_cons_succ] at y1 z1
  go_wp2_with fail
  refine (C2.out _ hbb4).mono ?_
  rintro e w5 ⟨rfl, hb5⟩
  have hx5 := (hb5.block _ (box_lt hx4)).trans hx4
  have hy5 := (hb5.block _ (box_lt hy4)).trans hy4
  have hbb5 := ext_trans hbb4 hb5
  clear y1 z1 hx4 hy4 hbb4 hb5
  have y1 := box_cell hx5 3
  have z1 := box_cell hy5 3
  simp only [List.getElem?_toArray, List.getElem?_cons_zero, List.getElem?_cons_succ] at y1 z1
  go_wp2_with fail
  refine (C3.out _ hbb5).mono ?_
  rintro e w6 ⟨rfl, hb6⟩
  go_wp2
  go_ret
  exact ⟨rfl, ext_trans hbb5 hb6⟩
end Go.Proofs.Ytbickehhnkhabaa
