/- Walks: Reverse, Min over []int. -/
import Derived.Test.YtbickehhnkhabaaLin6
import Derived.Lib.Slices
namespace Go.Proofs.Ytbickehhnkhabaa
open Go.RowKit

theorem intVals_set (l : List Int) (i : Nat) (x : Int) : (intVals l).set i (.int .i64 x) = intVals (l.set i x) := by
  unfold intVals; rw [List.map_set]
theorem intVals_length (l : List Int) : (intVals l).length = l.length := by unfold intVals; simp

/-- l, of which the part from k on is turned as far as the places i and j. -/
def revd (l : List Int) (k m i : Nat) (ys : List Int) : Prop :=
  ys.length = l.length ∧ ∀ t, t < l.length → ys[t]? = if t < k then l[t]? else if t - k < i ∨ m - 1 - i < t - k then l[k + (m - 1 - (t - k))]? else l[t]?

theorem revd_start (l : List Int) (k m : Nat) (hm : k + m = l.length) : revd l k m 0 l := by
  refine ⟨rfl, fun t ht => ?_⟩
  by_cases h : t < k
  · rw [if_pos h]
  · rw [if_neg h, if_neg (by omega)]

theorem revd_step {l : List Int} {k m i j : Nat} {ys : List Int} (h : revd l k m i ys) (hm : k + m = l.length) (hij : i < j) (hj : i + j + 1 = m) (x y : Int) (hx : ys[k + i]? = some x) (hy : ys[k + j]? = some y) :
    revd l k m (i + 1) ((ys.set (k + i) y).set (k + j) x) := by
  obtain ⟨h1, h2⟩ := h
  refine ⟨by simp [h1], fun t ht => ?_⟩
  have h3 := h2 t ht
  have hki := h2 (k + i) (by omega)
  have hkj := h2 (k + j) (by omega)
  rw [if_neg (by omega), if_neg (by omega), hx] at hki
  rw [if_neg (by omega), if_neg (by omega), hy] at hkj
  rw [List.getElem?_set, List.getElem?_set]
  by_cases e1 : k + j = t
  · rw [if_pos e1, if_pos (by simp; omega), if_neg (by omega), if_pos (by omega), show k + (m - 1 - (t - k)) = k + i by omega]; exact hki
  · rw [if_neg e1]
    by_cases e2 : k + i = t
    · rw [if_pos e2, if_pos (by omega), if_neg (by omega), if_pos (by omega), show k + (m - 1 - (t - k)) = k + j by omega]; exact hkj
    · rw [if_neg e2, h3]
      by_cases e3 : t < k
      · rw [if_pos e3, if_pos e3]
      · rw [if_neg e3, if_neg e3]
        by_cases e4 : t - k < i ∨ m - 1 - i < t - k
        · rw [if_pos e4, if_pos (by omega)]
        · rw [if_neg e4, if_neg (by omega)]

theorem revd_end {l : List Int} {k m i j : Nat} {ys : List Int} (h : revd l k m i ys) (hm : k + m = l.length) (hij : ¬ i < j) (hj : i + j + 1 = m) : ys = l.take k ++ (l.drop k).reverse := by
  obtain ⟨h1, h2⟩ := h
  apply List.ext_getElem?
  intro t
  by_cases ht : t < l.length
  · rw [h2 t ht]
    by_cases e3 : t < k
    · rw [if_pos e3, List.getElem?_append_left (by simp; omega), List.getElem?_take, if_pos e3]
    · rw [if_neg e3, List.getElem?_append_right (by simp; omega), List.getElem?_reverse (by simp; omega)]
      simp only [List.length_take, List.length_drop, List.getElem?_drop, Nat.min_eq_left (show k ≤ l.length by omega)]
      by_cases e4 : t - k < i ∨ m - 1 - i < t - k
      · rw [if_pos e4]; congr 1; omega
      · rw [if_neg e4]; congr 1; omega
  · rw [List.getElem?_eq_none (by omega), List.getElem?_eq_none (by simp; omega)]

set_option maxRecDepth 100000 in
set_option maxHeartbeats 1000000 in
theorem Reverse_any (base g0 n cap k : Nat) (l : List Int) (w : World) (hn : n = l.length) (hk : k < n) (hbig : n ≤ 9223372036854775807)
    (hv : w.ownsRow base 3 1 (.slice (some ⟨g0, 0, none⟩) n cap) n (intVals l)) :
    Calls Try.prog 56 #[.slice (some ⟨g0, k, none⟩) (n - k) (cap - k)] w fun e w' => e = .returned (.tuple #[]) ∧
      w'.ownsRow base 3 1 (.slice (some ⟨g0, 0, none⟩) n cap) n (intVals (l.take k ++ (l.drop k).reverse)) ∧ w.grownBy w' (some g0) := by
  obtain ⟨m, hm⟩ : ∃ m, n - k = m := ⟨_, rfl⟩
  have hmp : 0 < m := by omega
  have hkm : k + m = l.length := by omega
  rw [hm]
  have HN := Lib.hid hn
  have HM := Lib.hid hm
  have HK := Lib.hid hkm
  clear hn hm hkm
  have hm1 : ((m : Int) - 1) = ((m - 1 : Nat) : Int) := by omega
  go_enter Try.func56, Try.ntmps56
  go_wp2
  go_loopg [2, 3] m (fun q s2 s3 wr => ∃ i j : Nat, ∃ ys : List Int, s2 = .int .i64 i ∧ s3 = .int .i64 j ∧ i + j + 1 = m ∧ j ≤ q ∧ wr.ownsRow base 3 1 (.slice (some ⟨g0, 0, none⟩) n cap) n (intVals ys) ∧ w.grownBy wr (some g0) ∧ Hid (revd l k m i ys))
  case atStart => exact ⟨0, m - 1, l, rfl, by congr 1; have := HM.out; unfold wrap64; omega, by omega, by omega, hv, grown_refl _ _, revd_start l k m HK.out⟩
  case round =>
    obtain ⟨i, j, ys, rfl, rfl, hij, hq, hown, hgr, hR⟩ := hrel
    by_cases hlt : i < j
    · have hyl : ys.length = n := by rw [hR.out.1]; exact HN.out.symm
      have hkn : k + j < n := by have := HM.out; omega
      have hci : wr.cell? ⟨g0, k + i, none⟩ = some (.int .i64 (ys[k + i]'(by omega))) := by
        rw [hown.cellAt (k + i) (by omega), List.getElem?_eq_getElem (by rw [intVals_length]; omega)]; simp [intVals]
      have hcj : wr.cell? ⟨g0, k + j, none⟩ = some (.int .i64 (ys[k + j]'(by omega))) := by
        rw [hown.cellAt (k + j) (by omega), List.getElem?_eq_getElem (by rw [intVals_length]; omega)]; simp [intVals]
      have hfi := hown.frozenAt (k + i)
      have hfj := hown.frozenAt (k + j)
      have hst := revd_step hR.out HK.out hlt hij (ys[k + i]'(by omega)) (ys[k + j]'(by omega)) (List.getElem?_eq_getElem _) (List.getElem?_eq_getElem _)
      have HST := Lib.hid hst
      clear hst
      generalize ys[k + i]'(by omega) = x at *
      generalize ys[k + j]'(by omega) = y at *
      have s1 := hown.stored (k + i) (.int .i64 y)
      have s2 := s1.1.stored (k + j) (.int .i64 x)
      rw [intVals_set, intVals_set] at s2
      have hgr2 := grown_trans hgr (grown_trans s1.2 s2.2)
      have hown2 := s2.1
      clear s1 s2
      go_wp2
      go_region
      go_wp2
      go_roundg (j - 1)
      case measure => omega
      case rel => exact ⟨i + 1, j - 1, _, by go_num, by congr 1; omega, by omega, by omega, hown2, grown_trans hgr2 (grown_of_below (Below.refl _ _).drew _), HST⟩
    · go_wp2
      go_end0
      refine ⟨rfl, ?_, hgr⟩
      rw [← revd_end hR.out HK.out hlt hij]
      exact hown

theorem Min_any (v : Value) (l : List Int) (w : World) (hv : Ints w v l) (hn : 0 < l.length) :
    Calls Try.prog 79 #[v] w fun e w' => e = .returned (.int .i64 (Lib.minOf l)) ∧ w = w' := by
  obtain ⟨a, c, rfl, hl, hm, hc⟩ := hv
  obtain ⟨b, off, rfl, h0⟩ := hc 0 hn
  have HC := Lib.hid hc
  have h0' : w.cell? ⟨b, off, none⟩ = some (.int .i64 (l.getD 0 0)) := by simpa [List.getD, hn] using h0
  clear hc h0
  go_enter Try.func79, Try.ntmps79
  go_wp2
  go_loopg [3, 4] l.length (fun q s3 s4 wr => ∃ k : Nat, 0 < k ∧ k ≤ l.length ∧ l.length - k ≤ q ∧ s4 = .int .i64 k ∧ s3 = .int .i64 (Lib.minOf (l.take k)) ∧ wr = w)
  case atStart => exact ⟨1, Nat.one_pos, hn, by omega, rfl, by rw [Lib.minOf_one]; simp [List.getD, hn], rfl⟩
  case round =>
    obtain ⟨k, hk0, hk, hq, rfl, rfl, rfl⟩ := hrel
    by_cases hlt : k < l.length
    · obtain ⟨b2, o2, e2, hcell⟩ := HC.out k hlt
      simp only [Option.some.injEq, Addr.mk.injEq, and_true] at e2
      obtain ⟨rfl, rfl⟩ := e2
      have hs := Lib.minOf_step l k hk0 hlt
      have e1 : l.getD k 0 = l[k] := by simp [List.getD, hlt]
      rw [e1] at hs
      have HS := Lib.hid hs
      clear hs e1
      generalize l[k] = x at *
      generalize Lib.minOf (l.take k) = y at *
      go_wp2
      · go_roundg (l.length - (k + 1))
        case measure => omega
        case rel => exact ⟨k + 1, by omega, by omega, by omega, by go_num, by rw [HS.out]; congr 1; omega, rfl⟩
      · go_roundg (l.length - (k + 1))
        case measure => omega
        case rel => exact ⟨k + 1, by omega, by omega, by omega, by go_num, by rw [HS.out]; congr 1; omega, rfl⟩
    · have hk' : k = l.length := by omega
      have hT : Hid (Lib.minOf (l.take k) = Lib.minOf l) := by unfold Hid; rw [hk', List.take_of_length_le (Nat.le_refl _)]
      generalize Lib.minOf (l.take k) = y at *
      clear hk'
      go_wp2
      go_ret
      exact ⟨ret_int hT.out, rfl⟩
end Go.Proofs.Ytbickehhnkhabaa
