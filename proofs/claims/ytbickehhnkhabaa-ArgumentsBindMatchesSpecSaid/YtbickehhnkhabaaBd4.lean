/- Walks: SameValues, Strings, SameBound, each over equal lists. -/
import Derived.Test.YtbickehhnkhabaaBd3
import Derived.StillTailTactics
namespace Go.Proofs.Ytbickehhnkhabaa
open Go.RowKit

set_option maxRecDepth 100000 in
set_option maxHeartbeats 1000000 in
theorem SameValues_any (v1 v2 : Value) (l : List Val) (w : World) (hv1 : ValsAt w v1 l) (hv2 : ValsAt w v2 l) (hg : ∀ x ∈ l, GoodVal w x) :
    Calls Try.prog 49 #[v1, v2] w fun e w' => e = .returned (.bool true) ∧ Below w.heap.size w w' := by
  obtain ⟨a1, c1, rfl⟩ := hv1.isSlice
  obtain ⟨a2, c2, rfl⟩ := hv2.isSlice
  have hm : l.length ≤ c1 ∧ c1 ≤ 9223372036854775807 := by
    obtain ⟨a', c', e, h1, ⟨h2, _⟩, _⟩ := hv1
    simp only [Value.slice.injEq, true_and] at e
    omega
  have H1 := Lib.hid hv1
  have H2 := Lib.hid hv2
  have HG := Lib.hid hg
  clear hv1 hv2 hg
  go_enter Try.func49, Try.ntmps49
  go_wp2
  go_loopg [13] l.length (fun q s13 wr => ∃ k : Nat, k ≤ l.length ∧ l.length - k ≤ q ∧ s13 = .int .i64 k ∧ Below w.heap.size w wr)
  case atStart => exact ⟨0, Nat.zero_le _, by omega, rfl, Below.refl _ _⟩
  case round =>
    obtain ⟨k, hk, hq, rfl, hb⟩ := hrel
    by_cases hlt : k < l.length
    · obtain ⟨b1, off1, rfl, y0, y1, y2, y3, y4, y5, y6⟩ := ValsAt.at (H1.out.below hb) hlt
      obtain ⟨b2, off2, rfl, z0, z1, z2, z3, z4, z5, z6⟩ := ValsAt.at (H2.out.below hb) hlt
      have hcall := SameValue_any l[k] wr.drew ((HG.out _ (List.getElem_mem hlt)).below (below_drewN hb _))
      unfold valA at hcall
      generalize l[k] = x at *
      obtain ⟨k', n, na, nl, nc, d, da, dl, dc, s, r⟩ := x
      simp only at *
      go_wp2
      go_still_tail 8, (by kernel_rfl)
      change wpList _ _ _ _ _ wr.drew
      go_wp2_with fail
      refine hcall.mono ?_
      rintro e w5 ⟨rfl, hb5⟩
      go_wp2
      go_roundg (l.length - (k + 1))
      case measure => omega
      case rel => exact ⟨k + 1, by omega, by omega, by go_num, ext_trans (below_drewN hb 1) hb5⟩
    · go_wp2
      go_ret
      exact ⟨rfl, hb⟩

set_option maxRecDepth 100000 in
set_option maxHeartbeats 1000000 in
theorem EqualS_any (v1 v2 : Value) (l : List ByteArray) (w : World) (hv1 : RowOf Value.string w v1 l) (hv2 : RowOf Value.string w v2 l) :
    Calls Try.prog 77 #[v1, v2] w fun e w' => e = .returned (.bool true) ∧ Below w.heap.size w w' := by
  obtain ⟨a1, c1, rfl, hl1, hm1, hc1⟩ := hv1
  obtain ⟨a2, c2, rfl, hl2, hm2, hc2⟩ := hv2
  have H1 := Lib.hid hc1
  have H2 := Lib.hid hc2
  clear hc1 hc2
  go_enter Try.func77, Try.ntmps77
  go_wp2
  go_loopg [13] l.length (fun q s13 wr => ∃ k : Nat, k ≤ l.length ∧ l.length - k ≤ q ∧ s13 = .int .i64 k ∧ Below w.heap.size w wr)
  case atStart => exact ⟨0, Nat.zero_le _, by omega, rfl, Below.refl _ _⟩
  case round =>
    obtain ⟨k, hk, hq, rfl, hb⟩ := hrel
    by_cases hlt : k < l.length
    · obtain ⟨b1, off1, rfl, y0⟩ := H1.out k hlt
      obtain ⟨b2, off2, rfl, z0⟩ := H2.out k hlt
      rw [← hb.cell (p := ⟨b1, off1 + k, none⟩) (World.block_lt_of_cell? _ _ y0)] at y0
      rw [← hb.cell (p := ⟨b2, off2 + k, none⟩) (World.block_lt_of_cell? _ _ z0)] at z0
      generalize l[k] = x at *
      go_wp2
      go_quiet (fail)
      go_wp2
      go_roundg (l.length - (k + 1))
      case measure => omega
      case rel => exact ⟨k + 1, by omega, by omega, by go_num, below_drewN hb _⟩
    · go_wp2
      go_ret
      exact ⟨rfl, hb⟩

set_option maxHeartbeats 1000000 in
theorem Strings_any (v1 v2 : Value) (l : List ByteArray) (w : World) (hv1 : RowOf Value.string w v1 l) (hv2 : RowOf Value.string w v2 l) :
    Calls Try.prog 50 #[v1, v2] w fun e w' => e = .returned (.bool true) ∧ Below w.heap.size w w' := by
  have h := EqualS_any v1 v2 l w hv1 hv2
  clear hv1 hv2
  go_enter Try.func50, Try.ntmps50
  go_wp2_with fail
  refine h.mono ?_
  rintro e w' ⟨rfl, hb⟩
  go_wp2
  go_ret
  exact ⟨rfl, hb⟩
end Go.Proofs.Ytbickehhnkhabaa
