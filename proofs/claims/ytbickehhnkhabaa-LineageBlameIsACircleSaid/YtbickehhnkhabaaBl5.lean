/- Walks: the reference's ahead, Ahead. -/
import Derived.Test.YtbickehhnkhabaaBl4
namespace Go.Proofs.Ytbickehhnkhabaa
open Go.RowKit

set_option maxRecDepth 100000 in
set_option maxHeartbeats 1000000 in
theorem ahead_any (v : Value) (l : List Int) (a b : Int) (w : World) (hv : Ints w v l) :
    Calls Try.prog 60 #[v, .int .i64 a, .int .i64 b] w fun e w' => e = .returned (.bool (aheadI l a b)) ∧ w = w' := by
  have hin := Index_any v l a w hv
  obtain ⟨av, cap, rfl, hlc, hbig, _⟩ := id hv
  by_cases hm : a ∈ l
  · obtain ⟨k, hk, e1, _, _⟩ := idxFrom_get a l 0 hm
    rw [Nat.zero_add] at e1
    obtain ⟨u, hu, _, _, hs, _⟩ := Ints.slice hv (lo := k + 1) (hi' := l.length) (by omega) (Nat.le_refl _)
    have hsl := hs rfl
    simp only [Int.natCast_add, Int.natCast_one] at hsl
    rw [List.take_of_length_le (Nat.le_refl _)] at hu
    have hhas := HasInt_any u (l.drop (k + 1)) b w hu
    have hA : Hid (aheadI l a b = hasI (l.drop (k + 1)) b) := by
      unfold Hid aheadI
      rw [e1]
      have : ((k : Int) + 1).toNat = k + 1 := by omega
      rw [this]; simp
    rw [e1] at hin
    clear hv hm e1 hs hu
    generalize hasI (l.drop (k + 1)) b = p at *
    go_enter Try.func60, Try.ntmps60
    go_wp2_with (first | (go_at_call 10; refine hin.mono ?_; rintro e w1 ⟨rfl, rfl⟩) | (go_at_call 17; refine hhas.mono ?_; rintro e w1 ⟨rfl, rfl⟩))
    go_ret
    exact ⟨ret_bool hA.out.symm, rfl⟩
  · have e1 : idxFrom a l 0 = -1 := by
      have h1 : ¬ 0 ≤ idxFrom a l 0 := fun h => hm ((idxFrom_nonneg a l 0).1 h)
      have := idxFrom_ge a l 0
      omega
    have hA : Hid (aheadI l a b = false) := by unfold Hid aheadI; rw [e1]; simp
    rw [e1] at hin
    clear hv hm e1
    go_enter Try.func60, Try.ntmps60
    go_wp2_with (first | (go_at_call 10; refine hin.mono ?_; rintro e w1 ⟨rfl, rfl⟩))
    go_ret
    exact ⟨ret_bool hA.out.symm, rfl⟩

set_option maxRecDepth 100000 in
set_option maxHeartbeats 1000000 in
theorem Ahead_any (v : Value) (B : List (List Int)) (x y : Int) (w : World) (hv : IntRows w v B) (hne : ∀ y ∈ B, y ≠ []) (h8 : B.length ≤ 8) :
    Calls Try.prog 29 #[v, .int .i64 x, .int .i64 y] w fun e w' => e = .returned (.bool (aheadF B x y)) ∧ Below w.heap.size w w' := by
  obtain ⟨vs, hl, hrow, hi⟩ := hv
  obtain ⟨a, cap, rfl, hlc, hbig, hc⟩ := hrow
  obtain ⟨i0, hii, hz0, hz1, hz2⟩ := info_parts infoInt
  have HI := Lib.hid hi
  have HC := Lib.hid hc
  have HN := Lib.hid hne
  clear hi hc hne
  go_enter Try.func29, Try.ntmps29
  go_wp2
  go_loopg [7, 12] B.length (fun q s7 s12 wr => ∃ k : Nat, k ≤ B.length ∧ B.length - k ≤ q ∧ s12 = .int .i64 k ∧ wr.ownsRow w.heap.size 3 1 s7 k (headVals B k) ∧ Below w.heap.size w wr ∧ Hid ((B.take k).any (fun l => aheadI l x y) = false))
  case atStart => exact ⟨0, Nat.zero_le _, by omega, rfl, World.ownsRow_nil _ _ _ _, Below.refl _ _, rfl⟩
  case round =>
    obtain ⟨k, hk, hq, rfl, hown, hb, hall⟩ := hrel
    by_cases hB : k < B.length
    · have hlt : k < vs.length := by omega
      obtain ⟨b, off, rfl, hcell⟩ := HC.out k hlt
      have hpos : 0 < B[k].length := List.length_pos_iff.2 (HN.out _ (List.getElem_mem hB))
      have hcell' : wr.cell? ⟨b, off + k, none⟩ = some vs[k] := by rw [hb.cell (World.block_lt_of_cell? _ _ hcell)]; exact hcell
      obtain ⟨ax, cx, hvx, hlx, hmx, hcx⟩ := id (HI.out k hB)
      obtain ⟨bx, ox, rfl, hcx0⟩ := hcx 0 hpos
      have hcx0' : wr.cell? ⟨bx, ox, none⟩ = some (.int .i64 (headI B[k])) := by rw [← headI_getElem _ hpos, ← hcx0, hb.cell (p := ⟨bx, ox, none⟩) (World.block_lt_of_cell? _ _ hcx0)]; rfl
      have HT := Lib.hid (headVals_succ B k hB)
      have hrk := HI.out k hB
      rw [hvx] at hcell' hrk
      have hah := Lib.hid (fun W (h : Below w.heap.size w W) => ahead_any _ B[k] x y W (hrk.below h))
      have hsn : Hid ((B.take (k + 1)).any (fun l => aheadI l x y) = aheadI B[k] x y) := by
        unfold Hid
        rw [List.take_succ_eq_append_getElem hB, List.any_append, hall.out]; simp
      have hyes : Hid (aheadI B[k] x y = true → aheadF B x y = true) := fun h => by
        unfold aheadF
        rw [Bool.or_eq_true, List.any_eq_true]
        exact .inl ⟨_, List.getElem_mem hB, h⟩
      clear hcx hcx0 hcell hvx hrk
      generalize headI B[k] = n at *
      generalize B[k].length = lx at *
      generalize aheadI B[k] x y = p at *
      go_wp2_with (at_builtin; refine wpList_append_own _ rfl _ _ 22 rfl w.heap.size 3 i0 (.int .i64 0) 1 8 Try.underlying22 hii hz0 hz1 hz2 rfl (by decide) _ _ _ rfl (hown.alloc _) ⟨wr.heap.size, 0, none⟩ 1 1 [.int .i64 n] rfl rfl ?c1 ?c2 ?c3 ?c4 ?c5 ?_)
      case c1 => exact cell_one_new _ _ _
      case c2 => simp [Value.oneCell']
      case c3 => rw [maxLen_eq']; omega
      case c4 => omega
      case c5 => have := hb.size; simp; omega
      intro v' w2 hown2 hgr2 _
      have hb2 : Below w.heap.size w w2 := (hb.alloc hb.size _).grown hgr2 (by have := hb.size; simp; omega) (fun q hq => (hown.lt q hq).1)
      have hown2' : w2.ownsRow w.heap.size 3 1 v' (k + 1) (headVals B (k + 1)) := own_cast hown2 rfl (by rw [HT.out])
      have hcall := hah.out w2 hb2
      clear hown hown2 hgr2 hcx0' hcell' hah
      cases p with
      | true =>
        go_wp2_with (go_at_call 60; refine hcall.mono ?_; rintro e w3 ⟨rfl, rfl⟩)
        go_ret
        exact ⟨ret_bool (hyes.out (by simp)).symm, hb2⟩
      | false =>
        go_wp2_with (go_at_call 60; refine hcall.mono ?_; rintro e w3 ⟨rfl, rfl⟩)
        go_roundg (B.length - (k + 1))
        case measure => omega
        case rel => exact ⟨k + 1, by omega, by omega, by go_num, hown2', hb2, hsn⟩
    · have hk' : k = B.length := by omega
      have hh : Ints wr u7 (B.map headI) := by
        refine Ints_of_own (own_cast hown (by rw [hk']; simp) ?_)
        unfold headVals; rw [hk', List.take_of_length_le (Nat.le_refl _)]
      have hcall := ahead_any u7 (B.map headI) x y wr hh
      have hF : Hid (aheadF B x y = aheadI (B.map headI) x y) := by
        unfold Hid aheadF
        have h1 := hall.out
        rw [hk', List.take_of_length_le (Nat.le_refl _)] at h1
        rw [h1, Bool.false_or]
      clear hk' hown hh
      go_wp2_with (go_at_call 60; refine hcall.mono ?_; rintro e w3 ⟨rfl, rfl⟩)
      go_ret
      exact ⟨ret_bool hF.out.symm, hb⟩
end Go.Proofs.Ytbickehhnkhabaa
