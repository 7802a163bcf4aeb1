/- Part 10 of the proof. -/
import Derived.Test.YtpmadgmjkljbgaaDoorM9

/- Walk: Int.Raised (brindlewoodref3). -/
namespace Go.Proofs.YtpmadgmjkljbgaaDoor
open Go.RowKit

theorem NatAt.drew {w : World} {v : Value} {n : Nat} (h : NatAt w v n) : NatAt w.drew v n := by
  unfold NatAt at h ⊢
  exact h
def powFits (x : Int) (n : Nat) : Bool := decide ((dig (x ^ n).natAbs).length ≤ 256)
theorem raised_fits {b b1 : Bool} {k m j : Nat} (h : ZI b k = ZI b1 m ^ j) (hd : (dig k).length ≤ 256) : powFits (ZI b1 m) j = true := by
  unfold powFits
  rw [← h, ZI_abs]
  simpa using hd
theorem raised_not {b b1 : Bool} {k m j n : Nat} (h : ZI b k = ZI b1 m ^ j) (hd : ¬ (dig k).length ≤ 256) (hj : j ≤ n) (hm : 2 ≤ m) : powFits (ZI b1 m) n = false := by
  unfold powFits
  have h1 : (ZI b1 m ^ n).natAbs = m ^ n := by rw [Int.natAbs_pow, ZI_abs]
  have h2 : k = m ^ j := by rw [← ZI_abs b k, h, Int.natAbs_pow, ZI_abs]
  have h3 : m ^ j ≤ m ^ n := Nat.pow_le_pow_right (by omega) hj
  have h4 := dig_len_mono h3
  rw [h1]
  rw [h2] at hd
  simpa using (by omega : ¬ (dig (m ^ n)).length ≤ 256)
theorem powFits_small {x : Int} {n : Nat} (h : (x ^ n).natAbs ≤ 1) : powFits x n = true := by
  unfold powFits
  have := dig_len_mono h
  have h1 : (dig 1).length = 1 := by rw [dig_pos (by omega)]; simp [dig_zero]
  simpa using (by omega : (dig (x ^ n).natAbs).length ≤ 256)
theorem neg_one_pow (n : Nat) : (-1 : Int) ^ n = if n % 2 = 1 then -1 else 1 := by
  induction n with
  | zero => rfl
  | succ n ih =>
    rw [Int.pow_succ, ih]
    by_cases h : n % 2 = 1
    · rw [if_pos h, if_neg (by omega)]; rfl
    · rw [if_neg h, if_pos (by omega)]; rfl
theorem one_true (n : Nat) : powFits (ZI true 1) n = true ∧ ZI (n % 2 == 1) 1 = ZI true 1 ^ n := by
  have h : ZI true 1 = -1 := rfl
  rw [h]
  refine ⟨powFits_small ?_, ?_⟩
  · rw [Int.natAbs_pow]; simp
  · rw [neg_one_pow]
    by_cases h : n % 2 = 1
    · rw [if_pos h, show (n % 2 == 1) = true by simpa using h]; rfl
    · rw [if_neg h, show (n % 2 == 1) = false by simpa using h]; rfl
theorem one_false (n : Nat) : powFits (ZI false 1) n = true ∧ ZI false 1 = ZI false 1 ^ n := by
  have h : ZI false 1 = 1 := rfl
  rw [h, Int.one_pow]
  exact ⟨powFits_small (by rw [Int.one_pow]; decide), rfl⟩

set_option maxRecDepth 100000 in
set_option maxHeartbeats 2000000 in
theorem IntRaised_any (xv : Value) (x : Int) (n : Nat) (w : World) (hx : IntAt w xv x) (nx : (dig x.natAbs).length ≤ 100000) (hn : n ≤ 9223372036854775807) :
    Calls Tryd.prog 56 #[xv, .int .i64 n] w fun e w' => ∃ v', e = .returned (.tuple #[v', .bool (powFits x n)]) ∧ (powFits x n = true → IntAt w' v' (x ^ n)) ∧ (powFits x n = false → IntAt w' v' 0) ∧ Below w.heap.size w w' := by
  obtain ⟨b1, v1, m, rfl, hm, rfl⟩ := hx
  rw [ZI_abs] at nx
  have HC := Lib.hid (fun W u (h : Below w.heap.size w W) (hu : NatAt W u 1) => Compare_any _ _ m 1 W (hm.below h) hu)
  have HM := Lib.hid hm
  have NX := Lib.hid nx
  obtain ⟨a1, c1, rfl⟩ := hm.slice
  have hl1 : ((dig m).length = 0) ↔ m = 0 := by rw [List.length_eq_zero_iff, dig_eq_nil]
  clear hm nx
  generalize (dig m).length = l1 at HC HM hl1
  have hal := alloc2 w (.cells #[.bool b1, .slice a1 l1 c1] 41) (.cells #[.bool false, .slice none 0 0] 41)
  by_cases h0 : m = 0 ∧ 0 < n
  · obtain ⟨rfl, hn0⟩ := h0
    obtain rfl : l1 = 0 := hl1.2 rfl
    have hp0 : ZI b1 0 ^ n = 0 := by
      have : ZI b1 0 = 0 := by cases b1 <;> rfl
      rw [this, Int.zero_pow (by omega)]
    have HP := Lib.hid (show powFits (ZI b1 0) n = true from powFits_small (by rw [hp0]; decide))
    have HP0 := Lib.hid hp0
    have hn0' : (0 : Int) < (n : Int) := by omega
    clear hl1 HC HM NX hp0
    go_enter Tryd.func56, Tryd.ntmps56
    go_upto_region 1 with fail
    generalize ((w.alloc (.cells #[.bool b1, .slice a1 0 c1] 41)).alloc (.cells #[.bool false, .slice none 0 0] 41)) = w1 at *
    obtain ⟨hb1, h1, h2⟩ := hal
    have d1 := box_cell h1 1
    have g0 := box_cell h2 0
    have g1 := box_cell h2 1
    have f0 := box_frozen h2 0
    have f1 := box_frozen h2 1
    have hs := store2 h2 (.bool false) (.slice none 0 0)
    have t0 := box_cell hs.1 0
    have t1 := box_cell hs.1 1
    have HBF := Lib.hid ((hb1.setCell (p := ⟨w.heap.size + 1, 0, none⟩) (Nat.le_succ _) (.bool false)).setCell (p := ⟨w.heap.size + 1, 1, none⟩) (Nat.le_succ _) (.slice none 0 0))
    simp only [List.getElem?_toArray, List.getElem?_cons_zero, List.getElem?_cons_succ] at d1 g0 g1 t0 t1
    clear h1 h2 hs
    go_wp2
    refine bodyPost_ret (v := .tuple #[.agg #[.bool false, .slice none 0 0], .bool true]) (by simp [results, Tryd.results56, go_sem, t0, t1]) rfl ?_
    exact ⟨_, by rw [HP.out], fun _ => ⟨false, _, 0, rfl, NatAt.nil _, by rw [HP0.out]; rfl⟩, fun h => (by rw [HP.out] at h; cases h), HBF.out⟩
  · go_enter Tryd.func56, Tryd.ntmps56
    go_upto_region 1 with fail
    generalize ((w.alloc (.cells #[.bool b1, .slice a1 l1 c1] 41)).alloc (.cells #[.bool false, .slice none 0 0] 41)) = w1 at *
    obtain ⟨hb1, h1, h2⟩ := hal
    have d1 := box_cell h1 1
    simp only [List.getElem?_toArray, List.getElem?_cons_zero, List.getElem?_cons_succ] at d1
    have HS := Lib.hid (Small_any 1 w1 (by omega))
    by_cases hl0 : l1 = 0
    · have hn0 : n = 0 := by have := hl1.1 hl0; omega
      have hn0' : ¬ ((0 : Int) < (n : Int)) := by omega
      have HN0 := Lib.hid hn0
      have hl0' : ((l1 : Int) == 0) = true := by simp; omega
      have hm0 : m ≠ 1 := by have := hl1.1 hl0; omega
      clear hl1 h0 hn0 hl0
      go_wp2_with fail
      refine HS.out.mono ?_
      rintro e w2 ⟨v5, rfl, hN5, hb2⟩
      have HN5a := Lib.hid hN5
      obtain ⟨a5, c5, rfl⟩ := hN5.slice
      generalize (dig (Int.toNat 1)).length = l5 at *
      replace h1 := (hb2.block _ (box_lt h1)).trans h1
      replace h2 := (hb2.block _ (box_lt h2)).trans h2
      have hM6 : w.heap.size ≤ w2.heap.size := Nat.le_trans hb1.size hb2.size
      have hM7 : w.heap.size + 1 < w2.heap.size := box_lt h2
      have hB2 : Bxs [(w.heap.size, (.cells #[.bool b1, .slice a1 l1 c1] 41)), (w.heap.size + 1, (.cells #[.bool false, .slice none 0 0] 41)), (w2.heap.size, (.cells #[.bool false, .slice a5 l5 c5] 41))] w (w2.alloc (.cells #[.bool false, .slice a5 l5 c5] 41)) := ⟨ext_trans (ext_trans hb1 hb2) (ext_alloc _ _), fun x hx => by
        simp only [List.mem_cons, List.not_mem_nil, or_false] at hx
        rcases hx with rfl | rfl | rfl
        · exact box_alloc h1 _
        · exact box_alloc h2 _
        · exact heap_new _ _⟩
      have HN5 := Lib.hid (HN5a.out.below (ext_alloc w2 (.cells #[.bool false, .slice a5 l5 c5] 41)))
      clear hN5 HN5a h1 h2 d1 HS hb1
      go_upto_region 4 with fail
      generalize (w2.alloc (.cells #[.bool false, .slice a5 l5 c5] 41)) = w3 at *
      have hBd := hB2.drew
      clear hb2 hB2
      generalize w2.heap.size = M6 at *
      have hc0 : Hid ((cmpN m 1 == 0) = false) := by unfold Hid cmpN; simp; split <;> (try split) <;> omega
      generalize cmpN m 1 = c at *
      refine wp_region_noPanic ?_
      refine wp_region_L (S := fun _ W => Bxs [(w.heap.size, (.cells #[.bool b1, .slice a1 l1 c1] 41)), (w.heap.size + 1, (.cells #[.bool false, .slice none 0 0] 41)), (M6, (.cells #[.bool false, .slice a5 l5 c5] 41))] w W) (by kernel_rfl) ?_
      refine wpAnyL_take (T := fun _ => True) (i := 0) (v := ?vvzf0) rfl (by kernel_rfl) (by kernel_rfl) (by kernel_rfl) (fun _ _ _ h => h) (fun _ _ => Iff.rfl) (fun _ _ _ _ _ => trivial) (Closed.of_B (by kernel_rfl)) (Or.inl ⟨by kernel_rfl, ?hyzf0⟩) hBd ?restzf0
      case hyzf0 => (intro w _; go_simp; with_reducible rfl)
      go_simp
      refine wpAnyL_take (T := fun W => Bxs [(w.heap.size, (.cells #[.bool b1, .slice a1 l1 c1] 41)), (w.heap.size + 1, (.cells #[.bool false, .slice none 0 0] 41)), (M6, (.cells #[.bool false, .slice a5 l5 c5] 41))] w W) (i := 1) (v := ?vvzf1) rfl (by kernel_rfl) (by kernel_rfl) (by kernel_rfl) (fun _ _ _ h => h) (fun _ _ => Iff.rfl) (fun _ _ _ _ h => h) (Closed.of_B (by kernel_rfl)) (Or.inl ⟨by kernel_rfl, ?hyzf1⟩) hBd ?restzf1
      case hyzf1 =>
        intro W hW
        have hx0 := hW.2 ((w.heap.size, (.cells #[.bool b1, .slice a1 l1 c1] 41)) : Nat × Obj) (by simp)
        have dx0x1 := box_cell hx0 1
        simp only [List.getElem?_toArray, List.getElem?_cons_zero, List.getElem?_cons_succ] at dx0x1
        clear hW
        go_simp; with_reducible rfl
      go_simp
      refine wpAnyL_rows (R := fun i v _ W => match i with | 2 => NatAt W v 1 | 3 => v = .int .i64 c | 4 => v = .bool false | _ => True) (I := fun _ _ W => Bxs [(w.heap.size, (.cells #[.bool b1, .slice a1 l1 c1] 41)), (w.heap.size + 1, (.cells #[.bool false, .slice none 0 0] 41)), (M6, (.cells #[.bool false, .slice a5 l5 c5] 41))] w W ∧ NatAt W (.slice a5 l5 c5) 1) [((2, some 20, []), []), ((3, some 21, [2]), [(2, some 20, [])]), ((4, some 22, [3]), [(3, some 21, [2])])] (by kernel_rfl) (by decide) (fun _ _ _ h => h.1) (fun _ => ⟨hBd, HN5.out.drew⟩) ?tabzf ?finzf
      case tabzf =>
        refine TabAll.cons rfl (by kernel_rfl) (fun L vs W hsz hcl hn hd hdn hI K hK => ?_) ?_
        · simp only [putsD, Act.put, List.setIfInBounds_toArray, List.set_cons_zero, List.set_cons_succ] at hK ⊢
          clear hd hdn
          go_simp
          refine (Small_any 1 _ (by omega)).mono ?_
          rintro e W3 ⟨v', rfl, hv, hb3⟩
          refine hK _ v' _ (by rfl) (fun i u l hij hL h => ?_) hv ⟨hI.1.below hb3, hI.2.below hb3⟩
          · match i, hij, hL, h with
            | 2, _, _, h => exact NatAt.below h hb3
            | 3, _, _, h => exact h
            | 4, _, _, h => exact h
            | 0, _, _, _ | 1, _, _, _ | _ + 5, _, _, _ => trivial
        refine TabAll.cons rfl (by kernel_rfl) (fun L vs W hsz hcl hn hd hdn hI K hK => ?_) ?_
        · simp only [putsD, Act.put, List.setIfInBounds_toArray, List.set_cons_zero, List.set_cons_succ] at hK ⊢
          have r2 := hd.1
          generalize hv2 : vs 2 = v2 at *
          have HV2 := Lib.hid hv2
          clear hv2
          clear hd hdn
          have q2 : NatAt W v2 1 := r2
          clear r2
          go_simp
          refine (HC.out W _ hI.1.1 q2).mono ?_
          rintro e W3 ⟨rfl, hb3⟩
          refine hK _ (.int .i64 c) _ (by rfl) (fun i u l hij hL h => ?_) rfl ⟨hI.1.below hb3, hI.2.below hb3⟩
          · match i, hij, hL, h with
            | 2, _, _, h => exact NatAt.below h hb3
            | 3, _, _, h => exact h
            | 4, _, _, h => exact h
            | 0, _, _, _ | 1, _, _, _ | _ + 5, _, _, _ => trivial
        refine TabAll.cons rfl (by kernel_rfl) (fun L vs W hsz hcl hn hd hdn hI K hK => ?_) ?_
        · simp only [putsD, Act.put, List.setIfInBounds_toArray, List.set_cons_zero, List.set_cons_succ] at hK ⊢
          have r3 := hd.1
          generalize hv3 : vs 3 = v3 at *
          have HV3 := Lib.hid hv3
          clear hv3
          clear hd hdn
          have q3 : v3 = .int .i64 c := r3
          clear r3
          subst q3
          have hc0' := hc0.out
          go_simp
          refine hK _ (.bool false) _ (by rfl) (fun i u l hij hL h => h) rfl hI
        exact TabAll.nil
      case finzf =>
        intro vs W4 hd L hsz hall hI
        have r2 := hd.1
        have r3 := hd.2.1
        have r4 := hd.2.2.1
        simp only [List.map_cons, List.map_nil, putsD, Act.put, List.setIfInBounds_toArray, List.set_cons_zero, List.set_cons_succ]
        generalize vs 2 = v2 at *
        generalize vs 3 = v3 at *
        generalize vs 4 = v4 at *
        clear hd hall hsz
        refine NoPanic.normal ?_
        have q4 : v4 = .bool false := r4
        clear r2 r3 r4
        subst q4
        have HB4 := Lib.hid hI.1
        have HN5' := Lib.hid hI.2
        clear hI hBd HN5
        have e2 := HB4.out.2 (w.heap.size + 1, .cells #[.bool false, .slice none 0 0] 41) (by simp)
        have e1 := HB4.out.2 (w.heap.size, .cells #[.bool b1, .slice a1 l1 c1] 41) (by simp)
        have e6 := HB4.out.2 (M6, .cells #[.bool false, .slice a5 l5 c5] 41) (by simp)
        have HNN := Lib.hid HN5'.out
        clear HN5'
        go_wp2
        go_loopg [1] n (fun q s1 wr => ∃ (j : Nat) (b : Bool) (a0 : Option Addr) (l0 c0 k : Nat), s1 = .int .i64 ((n - j : Nat) : Int) ∧ j ≤ n ∧ n - j ≤ q ∧ wr.heap[M6]? = some (.cells #[.bool b, .slice a0 l0 c0] 41 (0, 0)) ∧ wr.heap[w.heap.size]? = some (.cells #[.bool b1, .slice a1 l1 c1] 41 (0, 0)) ∧ wr.heap[w.heap.size + 1]? = some (.cells #[.bool false, .slice none 0 0] 41 (0, 0)) ∧ Hid (NatAt wr (.slice a0 l0 c0) k) ∧ Hid (ZI b k = ZI b1 m ^ j) ∧ Hid ((dig k).length ≤ 256) ∧ Below w.heap.size w wr)
        case atStart => exact ⟨0, false, a5, l5, c5, 1, by simp, Nat.zero_le _, by omega, e6, e1, e2, HNN.out, by unfold Hid; simp [ZI], by unfold Hid; rw [dig_pos (by omega)]; simp [dig_zero], HB4.out.1⟩
        case round =>
          clear e1 e2 e6 HNN HB4
          obtain ⟨j, b, a0, l0, c0, k, rfl, hj, hq, h6, h1, h2, HK, HZ, HD, hb⟩ := hrel
          by_cases hjn : j < n
          · exfalso
            have := HN0.out
            omega
          · obtain rfl : j = n := by omega
            have hz : ((j - j : Nat) : Int) = 0 := by omega
            rw [hz]
            clear hz
            have HFIT := Lib.hid (raised_fits HZ.out HD.out)
            have x0 := box_cell h6 0
            have x1 := box_cell h6 1
            have g0 := box_cell h2 0
            have g1 := box_cell h2 1
            have f0 := box_frozen h2 0
            have f1 := box_frozen h2 1
            have hs := store2 h2 (.bool b) (.slice a0 l0 c0)
            have t0 := box_cell hs.1 0
            have t1 := box_cell hs.1 1
            have HF := Lib.hid (natAt_set h2 HK.out b (.slice a0 l0 c0))
            have HBF2 := Lib.hid ((hb.setCell (p := ⟨w.heap.size + 1, 0, none⟩) (Nat.le_succ _) (.bool b)).setCell (p := ⟨w.heap.size + 1, 1, none⟩) (Nat.le_succ _) (.slice a0 l0 c0))
            simp only [List.getElem?_toArray, List.getElem?_cons_zero, List.getElem?_cons_succ] at x0 x1 g0 g1 t0 t1
            clear h6 h1 h2 hs
            go_wp2
            refine bodyPost_ret (v := .tuple #[.agg #[.bool b, .slice a0 l0 c0], .bool true]) (by simp [results, Tryd.results56, go_sem, t0, t1]) rfl ?_
            exact ⟨_, by rw [HFIT.out], fun _ => ⟨_, _, k, rfl, HF.out, HZ.out⟩, fun h => (by rw [HFIT.out] at h; cases h), HBF2.out⟩
    · have hl0' : ((l1 : Int) == 0) = false := by simp; omega
      have hm0 : m ≠ 0 := fun h => hl0 (hl1.2 h)
      clear h0 hl0 hl1
      go_wp2_with fail
      refine HS.out.mono ?_
      rintro e w2 ⟨v5, rfl, hN5, hb2⟩
      have HN5a := Lib.hid hN5
      obtain ⟨a5, c5, rfl⟩ := hN5.slice
      generalize (dig (Int.toNat 1)).length = l5 at *
      replace h1 := (hb2.block _ (box_lt h1)).trans h1
      replace h2 := (hb2.block _ (box_lt h2)).trans h2
      have hM6 : w.heap.size ≤ w2.heap.size := Nat.le_trans hb1.size hb2.size
      have hM7 : w.heap.size + 1 < w2.heap.size := box_lt h2
      have hB2 : Bxs [(w.heap.size, (.cells #[.bool b1, .slice a1 l1 c1] 41)), (w.heap.size + 1, (.cells #[.bool false, .slice none 0 0] 41)), (w2.heap.size, (.cells #[.bool false, .slice a5 l5 c5] 41))] w (w2.alloc (.cells #[.bool false, .slice a5 l5 c5] 41)) := ⟨ext_trans (ext_trans hb1 hb2) (ext_alloc _ _), fun x hx => by
        simp only [List.mem_cons, List.not_mem_nil, or_false] at hx
        rcases hx with rfl | rfl | rfl
        · exact box_alloc h1 _
        · exact box_alloc h2 _
        · exact heap_new _ _⟩
      have HN5 := Lib.hid (HN5a.out.below (ext_alloc w2 (.cells #[.bool false, .slice a5 l5 c5] 41)))
      clear hN5 HN5a h1 h2 d1 HS hb1
      go_upto_region 4 with fail
      generalize (w2.alloc (.cells #[.bool false, .slice a5 l5 c5] 41)) = w3 at *
      have hBd := hB2.drew
      clear hb2 hB2
      generalize w2.heap.size = M6 at *
      by_cases hm1 : m = 1
      · have hmm := hm1
        have hc0 : Hid ((cmpN m 1 == 0) = true) := by subst hm1; rfl
        generalize cmpN m 1 = c at *
        subst hm1
        refine wp_region_noPanic ?_
        refine wp_region_L (S := fun _ W => Bxs [(w.heap.size, (.cells #[.bool b1, .slice a1 l1 c1] 41)), (w.heap.size + 1, (.cells #[.bool false, .slice none 0 0] 41)), (M6, (.cells #[.bool false, .slice a5 l5 c5] 41))] w W) (by kernel_rfl) ?_
        refine wpAnyL_take (T := fun _ => True) (i := 0) (v := ?vvt0) rfl (by kernel_rfl) (by kernel_rfl) (by kernel_rfl) (fun _ _ _ h => h) (fun _ _ => Iff.rfl) (fun _ _ _ _ _ => trivial) (Closed.of_B (by kernel_rfl)) (Or.inl ⟨by kernel_rfl, ?hyt0⟩) hBd ?restt0
        case hyt0 => (intro w _; go_simp; with_reducible rfl)
        go_simp
        refine wpAnyL_take (T := fun W => Bxs [(w.heap.size, (.cells #[.bool b1, .slice a1 l1 c1] 41)), (w.heap.size + 1, (.cells #[.bool false, .slice none 0 0] 41)), (M6, (.cells #[.bool false, .slice a5 l5 c5] 41))] w W) (i := 1) (v := ?vvt1) rfl (by kernel_rfl) (by kernel_rfl) (by kernel_rfl) (fun _ _ _ h => h) (fun _ _ => Iff.rfl) (fun _ _ _ _ h => h) (Closed.of_B (by kernel_rfl)) (Or.inl ⟨by kernel_rfl, ?hyt1⟩) hBd ?restt1
        case hyt1 =>
          intro W hW
          have hx0 := hW.2 ((w.heap.size, (.cells #[.bool b1, .slice a1 l1 c1] 41)) : Nat × Obj) (by simp)
          have dx0x1 := box_cell hx0 1
          simp only [List.getElem?_toArray, List.getElem?_cons_zero, List.getElem?_cons_succ] at dx0x1
          clear hW
          go_simp; with_reducible rfl
        go_simp
        refine wpAnyL_rows (R := fun i v _ W => match i with | 2 => NatAt W v 1 | 3 => v = .int .i64 c | 4 => v = .bool true | _ => True) (I := fun _ _ W => Bxs [(w.heap.size, (.cells #[.bool b1, .slice a1 l1 c1] 41)), (w.heap.size + 1, (.cells #[.bool false, .slice none 0 0] 41)), (M6, (.cells #[.bool false, .slice a5 l5 c5] 41))] w W ∧ NatAt W (.slice a5 l5 c5) 1) [((2, some 20, []), []), ((3, some 21, [2]), [(2, some 20, [])]), ((4, some 22, [3]), [(3, some 21, [2])])] (by kernel_rfl) (by decide) (fun _ _ _ h => h.1) (fun _ => ⟨hBd, HN5.out.drew⟩) ?tabt ?fint
        case tabt =>
          refine TabAll.cons rfl (by kernel_rfl) (fun L vs W hsz hcl hn hd hdn hI K hK => ?_) ?_
          · simp only [putsD, Act.put, List.setIfInBounds_toArray, List.set_cons_zero, List.set_cons_succ] at hK ⊢
            clear hd hdn
            go_simp
            refine (Small_any 1 _ (by omega)).mono ?_
            rintro e W3 ⟨v', rfl, hv, hb3⟩
            refine hK _ v' _ (by rfl) (fun i u l hij hL h => ?_) hv ⟨hI.1.below hb3, hI.2.below hb3⟩
            · match i, hij, hL, h with
              | 2, _, _, h => exact NatAt.below h hb3
              | 3, _, _, h => exact h
              | 4, _, _, h => exact h
              | 0, _, _, _ | 1, _, _, _ | _ + 5, _, _, _ => trivial
          refine TabAll.cons rfl (by kernel_rfl) (fun L vs W hsz hcl hn hd hdn hI K hK => ?_) ?_
          · simp only [putsD, Act.put, List.setIfInBounds_toArray, List.set_cons_zero, List.set_cons_succ] at hK ⊢
            have r2 := hd.1
            generalize hv2 : vs 2 = v2 at *
            have HV2 := Lib.hid hv2
            clear hv2
            clear hd hdn
            have q2 : NatAt W v2 1 := r2
            clear r2
            go_simp
            refine (HC.out W _ hI.1.1 q2).mono ?_
            rintro e W3 ⟨rfl, hb3⟩
            refine hK _ (.int .i64 c) _ (by rfl) (fun i u l hij hL h => ?_) rfl ⟨hI.1.below hb3, hI.2.below hb3⟩
            · match i, hij, hL, h with
              | 2, _, _, h => exact NatAt.below h hb3
              | 3, _, _, h => exact h
              | 4, _, _, h => exact h
              | 0, _, _, _ | 1, _, _, _ | _ + 5, _, _, _ => trivial
          refine TabAll.cons rfl (by kernel_rfl) (fun L vs W hsz hcl hn hd hdn hI K hK => ?_) ?_
          · simp only [putsD, Act.put, List.setIfInBounds_toArray, List.set_cons_zero, List.set_cons_succ] at hK ⊢
            have r3 := hd.1
            generalize hv3 : vs 3 = v3 at *
            have HV3 := Lib.hid hv3
            clear hv3
            clear hd hdn
            have q3 : v3 = .int .i64 c := r3
            clear r3
            subst q3
            have hc0' := hc0.out
            go_simp
            refine hK _ (.bool true) _ (by rfl) (fun i u l hij hL h => h) rfl hI
          exact TabAll.nil
        case fint =>
          intro vs W4 hd L hsz hall hI
          have r2 := hd.1
          have r3 := hd.2.1
          have r4 := hd.2.2.1
          simp only [List.map_cons, List.map_nil, putsD, Act.put, List.setIfInBounds_toArray, List.set_cons_zero, List.set_cons_succ]
          generalize vs 2 = v2 at *
          generalize vs 3 = v3 at *
          generalize vs 4 = v4 at *
          clear hd hall hsz
          refine NoPanic.normal ?_
          have q4 : v4 = .bool true := r4
          clear r2 r3 r4
          subst q4
          have HB4 := Lib.hid hI.1
          have HN5' := Lib.hid hI.2
          clear hI hBd HN5
          have e0 := box_cell (HB4.out.2 (w.heap.size, .cells #[.bool b1, .slice a1 l1 c1] 41) (by simp)) 0
          have e2 := HB4.out.2 (w.heap.size + 1, .cells #[.bool false, .slice none 0 0] 41) (by simp)
          have HE2 := Lib.hid e2
          have HS1 := Lib.hid (Small_any 1 W4 (by omega))
          have hpar : (Int.tmod (n : Int) 2 == 1) = (n % 2 == 1) := by rw [show Int.tmod (n : Int) 2 = ((n % 2 : Nat) : Int) from (Int.ofNat_tmod n 2).symm, Bool.eq_iff_iff, beq_iff_eq, beq_iff_eq]; omega
          have HPAR := Lib.hid hpar
          have hpar2 : (((n : Int) % 2) == 1) = (n % 2 == 1) := by rw [Bool.eq_iff_iff, beq_iff_eq, beq_iff_eq]; omega
          clear hpar e2
          simp only [List.getElem?_toArray, List.getElem?_cons_zero, List.getElem?_cons_succ] at e0
          cases b1 with
          | true =>
            go_wp2_with fail
            refine HS1.out.mono ?_
            rintro e W5 ⟨v', rfl, hN, hb5⟩
            have HN := Lib.hid hN
            obtain ⟨a6, c6, rfl⟩ := hN.slice
            generalize (dig (Int.toNat 1)).length = l6 at *
            have h3 := (hb5.block _ (box_lt HE2.out)).trans HE2.out
            have g0 := box_cell h3 0
            have g1 := box_cell h3 1
            have f0 := box_frozen h3 0
            have f1 := box_frozen h3 1
            have hs := store2 h3 (.bool (n % 2 == 1)) (.slice a6 l6 c6)
            have t0 := box_cell hs.1 0
            have t1 := box_cell hs.1 1
            have HF := Lib.hid (natAt_set h3 HN.out (n % 2 == 1) (.slice a6 l6 c6))
            have HBF := Lib.hid (((ext_trans HB4.out.1 hb5).setCell (p := ⟨w.heap.size + 1, 0, none⟩) (Nat.le_succ _) (.bool (n % 2 == 1))).setCell (p := ⟨w.heap.size + 1, 1, none⟩) (Nat.le_succ _) (.slice a6 l6 c6))
            simp only [List.getElem?_toArray, List.getElem?_cons_zero, List.getElem?_cons_succ] at g0 g1 t0 t1
            clear hN h3 hs e0 hb5
            go_wp2
            refine bodyPost_ret (v := .tuple #[.agg #[.bool (n % 2 == 1), .slice a6 l6 c6], .bool true]) (by simp [results, Tryd.results56, go_sem, t0, t1]) rfl ?_
            exact ⟨_, by rw [(one_true n).1], fun _ => ⟨_, _, 1, rfl, HF.out, (one_true n).2⟩, fun h => (by rw [(one_true n).1] at h; cases h), HBF.out⟩
          | false =>
            go_wp2_with fail
            refine HS1.out.mono ?_
            rintro e W5 ⟨v', rfl, hN, hb5⟩
            have HN := Lib.hid hN
            obtain ⟨a6, c6, rfl⟩ := hN.slice
            generalize (dig (Int.toNat 1)).length = l6 at *
            have h3 := (hb5.block _ (box_lt HE2.out)).trans HE2.out
            have g0 := box_cell h3 0
            have g1 := box_cell h3 1
            have f0 := box_frozen h3 0
            have f1 := box_frozen h3 1
            have hs := store2 h3 (.bool false) (.slice a6 l6 c6)
            have t0 := box_cell hs.1 0
            have t1 := box_cell hs.1 1
            have HF := Lib.hid (natAt_set h3 HN.out false (.slice a6 l6 c6))
            have HBF := Lib.hid (((ext_trans HB4.out.1 hb5).setCell (p := ⟨w.heap.size + 1, 0, none⟩) (Nat.le_succ _) (.bool false)).setCell (p := ⟨w.heap.size + 1, 1, none⟩) (Nat.le_succ _) (.slice a6 l6 c6))
            simp only [List.getElem?_toArray, List.getElem?_cons_zero, List.getElem?_cons_succ] at g0 g1 t0 t1
            clear hN h3 hs e0 hb5
            go_wp2
            refine bodyPost_ret (v := .tuple #[.agg #[.bool false, .slice a6 l6 c6], .bool true]) (by simp [results, Tryd.results56, go_sem, t0, t1]) rfl ?_
            exact ⟨_, by rw [(one_false n).1], fun _ => ⟨_, _, 1, rfl, HF.out, (one_false n).2⟩, fun h => (by rw [(one_false n).1] at h; cases h), HBF.out⟩
      · have hm2 : 2 ≤ m := by omega
        have hc0 : Hid ((cmpN m 1 == 0) = false) := by unfold Hid cmpN; simp; split <;> (try split) <;> omega
        generalize cmpN m 1 = c at *
        refine wp_region_noPanic ?_
        refine wp_region_L (S := fun _ W => Bxs [(w.heap.size, (.cells #[.bool b1, .slice a1 l1 c1] 41)), (w.heap.size + 1, (.cells #[.bool false, .slice none 0 0] 41)), (M6, (.cells #[.bool false, .slice a5 l5 c5] 41))] w W) (by kernel_rfl) ?_
        refine wpAnyL_take (T := fun _ => True) (i := 0) (v := ?vvf0) rfl (by kernel_rfl) (by kernel_rfl) (by kernel_rfl) (fun _ _ _ h => h) (fun _ _ => Iff.rfl) (fun _ _ _ _ _ => trivial) (Closed.of_B (by kernel_rfl)) (Or.inl ⟨by kernel_rfl, ?hyf0⟩) hBd ?restf0
        case hyf0 => (intro w _; go_simp; with_reducible rfl)
        go_simp
        refine wpAnyL_take (T := fun W => Bxs [(w.heap.size, (.cells #[.bool b1, .slice a1 l1 c1] 41)), (w.heap.size + 1, (.cells #[.bool false, .slice none 0 0] 41)), (M6, (.cells #[.bool false, .slice a5 l5 c5] 41))] w W) (i := 1) (v := ?vvf1) rfl (by kernel_rfl) (by kernel_rfl) (by kernel_rfl) (fun _ _ _ h => h) (fun _ _ => Iff.rfl) (fun _ _ _ _ h => h) (Closed.of_B (by kernel_rfl)) (Or.inl ⟨by kernel_rfl, ?hyf1⟩) hBd ?restf1
        case hyf1 =>
          intro W hW
          have hx0 := hW.2 ((w.heap.size, (.cells #[.bool b1, .slice a1 l1 c1] 41)) : Nat × Obj) (by simp)
          have dx0x1 := box_cell hx0 1
          simp only [List.getElem?_toArray, List.getElem?_cons_zero, List.getElem?_cons_succ] at dx0x1
          clear hW
          go_simp; with_reducible rfl
        go_simp
        refine wpAnyL_rows (R := fun i v _ W => match i with | 2 => NatAt W v 1 | 3 => v = .int .i64 c | 4 => v = .bool false | _ => True) (I := fun _ _ W => Bxs [(w.heap.size, (.cells #[.bool b1, .slice a1 l1 c1] 41)), (w.heap.size + 1, (.cells #[.bool false, .slice none 0 0] 41)), (M6, (.cells #[.bool false, .slice a5 l5 c5] 41))] w W ∧ NatAt W (.slice a5 l5 c5) 1) [((2, some 20, []), []), ((3, some 21, [2]), [(2, some 20, [])]), ((4, some 22, [3]), [(3, some 21, [2])])] (by kernel_rfl) (by decide) (fun _ _ _ h => h.1) (fun _ => ⟨hBd, HN5.out.drew⟩) ?tabf ?finf
        case tabf =>
          refine TabAll.cons rfl (by kernel_rfl) (fun L vs W hsz hcl hn hd hdn hI K hK => ?_) ?_
          · simp only [putsD, Act.put, List.setIfInBounds_toArray, List.set_cons_zero, List.set_cons_succ] at hK ⊢
            clear hd hdn
            go_simp
            refine (Small_any 1 _ (by omega)).mono ?_
            rintro e W3 ⟨v', rfl, hv, hb3⟩
            refine hK _ v' _ (by rfl) (fun i u l hij hL h => ?_) hv ⟨hI.1.below hb3, hI.2.below hb3⟩
            · match i, hij, hL, h with
              | 2, _, _, h => exact NatAt.below h hb3
              | 3, _, _, h => exact h
              | 4, _, _, h => exact h
              | 0, _, _, _ | 1, _, _, _ | _ + 5, _, _, _ => trivial
          refine TabAll.cons rfl (by kernel_rfl) (fun L vs W hsz hcl hn hd hdn hI K hK => ?_) ?_
          · simp only [putsD, Act.put, List.setIfInBounds_toArray, List.set_cons_zero, List.set_cons_succ] at hK ⊢
            have r2 := hd.1
            generalize hv2 : vs 2 = v2 at *
            have HV2 := Lib.hid hv2
            clear hv2
            clear hd hdn
            have q2 : NatAt W v2 1 := r2
            clear r2
            go_simp
            refine (HC.out W _ hI.1.1 q2).mono ?_
            rintro e W3 ⟨rfl, hb3⟩
            refine hK _ (.int .i64 c) _ (by rfl) (fun i u l hij hL h => ?_) rfl ⟨hI.1.below hb3, hI.2.below hb3⟩
            · match i, hij, hL, h with
              | 2, _, _, h => exact NatAt.below h hb3
              | 3, _, _, h => exact h
              | 4, _, _, h => exact h
              | 0, _, _, _ | 1, _, _, _ | _ + 5, _, _, _ => trivial
          refine TabAll.cons rfl (by kernel_rfl) (fun L vs W hsz hcl hn hd hdn hI K hK => ?_) ?_
          · simp only [putsD, Act.put, List.setIfInBounds_toArray, List.set_cons_zero, List.set_cons_succ] at hK ⊢
            have r3 := hd.1
            generalize hv3 : vs 3 = v3 at *
            have HV3 := Lib.hid hv3
            clear hv3
            clear hd hdn
            have q3 : v3 = .int .i64 c := r3
            clear r3
            subst q3
            have hc0' := hc0.out
            go_simp
            refine hK _ (.bool false) _ (by rfl) (fun i u l hij hL h => h) rfl hI
          exact TabAll.nil
        case finf =>
          intro vs W4 hd L hsz hall hI
          have r2 := hd.1
          have r3 := hd.2.1
          have r4 := hd.2.2.1
          simp only [List.map_cons, List.map_nil, putsD, Act.put, List.setIfInBounds_toArray, List.set_cons_zero, List.set_cons_succ]
          generalize vs 2 = v2 at *
          generalize vs 3 = v3 at *
          generalize vs 4 = v4 at *
          clear hd hall hsz
          refine NoPanic.normal ?_
          have q4 : v4 = .bool false := r4
          clear r2 r3 r4
          subst q4
          have HB4 := Lib.hid hI.1
          have HN5' := Lib.hid hI.2
          clear hI hBd HN5
          have e2 := HB4.out.2 (w.heap.size + 1, .cells #[.bool false, .slice none 0 0] 41) (by simp)
          have e1 := HB4.out.2 (w.heap.size, .cells #[.bool b1, .slice a1 l1 c1] 41) (by simp)
          have e6 := HB4.out.2 (M6, .cells #[.bool false, .slice a5 l5 c5] 41) (by simp)
          have HNN := Lib.hid HN5'.out
          clear HN5'
          go_wp2
          go_loopg [1] n (fun q s1 wr => ∃ (j : Nat) (b : Bool) (a0 : Option Addr) (l0 c0 k : Nat), s1 = .int .i64 ((n - j : Nat) : Int) ∧ j ≤ n ∧ n - j ≤ q ∧ wr.heap[M6]? = some (.cells #[.bool b, .slice a0 l0 c0] 41 (0, 0)) ∧ wr.heap[w.heap.size]? = some (.cells #[.bool b1, .slice a1 l1 c1] 41 (0, 0)) ∧ wr.heap[w.heap.size + 1]? = some (.cells #[.bool false, .slice none 0 0] 41 (0, 0)) ∧ Hid (NatAt wr (.slice a0 l0 c0) k) ∧ Hid (ZI b k = ZI b1 m ^ j) ∧ Hid ((dig k).length ≤ 256) ∧ Below w.heap.size w wr)
          case atStart => exact ⟨0, false, a5, l5, c5, 1, by simp, Nat.zero_le _, by omega, e6, e1, e2, HNN.out, by unfold Hid; simp [ZI], by unfold Hid; rw [dig_pos (by omega)]; simp [dig_zero], HB4.out.1⟩
          case round =>
            clear e1 e2 e6 HNN HB4
            obtain ⟨j, b, a0, l0, c0, k, rfl, hj, hq, h6, h1, h2, HK, HZ, HD, hb⟩ := hrel
            by_cases hjn : j < n
            · have hpos : (0 : Int) < ((n - j : Nat) : Int) := by omega
              have HT := Lib.hid (IntTimes_any _ _ (ZI b1 m ^ j) (ZI b1 m) wr ⟨b, _, k, rfl, HK.out, HZ.out⟩ ⟨b1, _, m, rfl, HM.out.below hb, rfl⟩ (by rw [← HZ.out, ZI_abs]; have := HD.out; omega) (by rw [ZI_abs]; have := NX.out; omega))
              have x0 := box_cell h6 0
              have x1 := box_cell h6 1
              have y0 := box_cell h1 0
              have y1 := box_cell h1 1
              simp only [List.getElem?_toArray, List.getElem?_cons_zero, List.getElem?_cons_succ] at x0 x1 y0 y1
              have H6 := Lib.hid h6
              have H1 := Lib.hid h1
              have H2 := Lib.hid h2
              clear h6 h1 h2
              go_wp2_with fail
              refine HT.out.mono ?_
              rintro e w2 ⟨v', rfl, hT, hb2⟩
              obtain ⟨b7, nv7, k7, rfl, hn7, hz7⟩ := hT
              have HN7 := Lib.hid hn7
              have HZ7 := Lib.hid hz7
              obtain ⟨a7, c7, rfl⟩ := hn7.slice
              generalize hl7 : (dig k7).length = l7 at *
              have HL7 := Lib.hid hl7
              clear hn7 hz7 hl7 x0 x1 y0 y1 HT
              have h6 := (hb2.block _ (box_lt H6.out)).trans H6.out
              have h1 := (hb2.block _ (box_lt H1.out)).trans H1.out
              have h2 := (hb2.block _ (box_lt H2.out)).trans H2.out
              have x0 := box_cell h6 0
              have x1 := box_cell h6 1
              have y0 := box_frozen h6 0
              have y1 := box_frozen h6 1
              have hs := store2 h6 (.bool b7) (.slice a7 l7 c7)
              have HF := Lib.hid (natAt_set h6 HN7.out b7 (.slice a7 l7 c7))
              have HBF := Lib.hid (((ext_trans hb hb2).setCell (p := ⟨M6, 0, none⟩) hM6 (.bool b7)).setCell (p := ⟨M6, 1, none⟩) hM6 (.slice a7 l7 c7))
              have HH6 := Lib.hid hs.1
              have HH1 := Lib.hid ((hs.2 w.heap.size (box_lt h1) (by omega)).trans h1)
              have HH2 := Lib.hid ((hs.2 (w.heap.size + 1) (box_lt h2) (by omega)).trans h2)
              have t0 := box_cell hs.1 0
              have t1 := box_cell hs.1 1
              simp only [List.getElem?_toArray, List.getElem?_cons_zero, List.getElem?_cons_succ] at x0 x1 t0 t1
              have HFI := Lib.hid (IntFits_any _ (ZI b1 m ^ j * ZI b1 m) 128 _ (show IntAt _ _ _ from ⟨b7, _, k7, rfl, HF.out, HZ7.out⟩) (by omega))
              clear h6 h1 h2 hs HK HD HZ
              have hk7 : (ZI b1 m ^ j * ZI b1 m).natAbs = k7 := by rw [← HZ7.out, ZI_abs]
              rw [hk7, HL7.out] at HFI
              clear hk7
              go_wp2_with fail
              generalize ((w2.setCell ⟨M6, 0, none⟩ (.bool b7)).setCell ⟨M6, 1, none⟩ (.slice a7 l7 c7)) = w5 at *
              refine HFI.out.mono ?_
              rintro e w6 ⟨rfl, hb6⟩
              have h6 := (hb6.block _ (box_lt HH6.out)).trans HH6.out
              have h1 := (hb6.block _ (box_lt HH1.out)).trans HH1.out
              have h2 := (hb6.block _ (box_lt HH2.out)).trans HH2.out
              have HFF := Lib.hid (HF.out.below hb6)
              have HBB := Lib.hid (ext_trans HBF.out hb6)
              clear t0 t1 x0 x1 y0 y1 HFI
              by_cases hfit : l7 ≤ 2 * 128
              · have hd1 : decide (l7 ≤ 2 * 128) = true := by simpa using hfit
                rw [hd1]
                have hw1 : IntKind.i64.wrap (((n - j : Nat) : Int) - 1) = ((n - (j + 1) : Nat) : Int) := by rw [IntWalk.i64_in _ (by omega)]; omega
                have hw2 : (((n - j : Nat) : Int) - 1) = ((n - (j + 1) : Nat) : Int) := by omega
                go_wp2
                go_roundg (n - (j + 1))
                case measure => omega
                case rel => exact ⟨j + 1, b7, a7, l7, c7, k7, by first | rfl | (rw [hw2]) | (rw [hw1]), by omega, Nat.le_refl _, h6, h1, h2, HFF.out, by unfold Hid; rw [HZ7.out, Int.pow_succ], by unfold Hid; rw [HL7.out]; omega, HBB.out⟩
              · have hd1 : decide (l7 ≤ 2 * 128) = false := by simpa using hfit
                rw [hd1]
                have HNF := Lib.hid (raised_not (n := n) (HZ7.out.trans (Int.pow_succ _ _).symm) (by rw [HL7.out]; omega) (by omega) hm2)
                have g0 := box_cell h2 0
                have g1 := box_cell h2 1
                have f0 := box_frozen h2 0
                have f1 := box_frozen h2 1
                have hs := store2 h2 (.bool false) (.slice none 0 0)
                have t0 := box_cell hs.1 0
                have t1 := box_cell hs.1 1
                have HBF2 := Lib.hid ((HBB.out.setCell (p := ⟨w.heap.size + 1, 0, none⟩) (Nat.le_succ _) (.bool false)).setCell (p := ⟨w.heap.size + 1, 1, none⟩) (Nat.le_succ _) (.slice none 0 0))
                simp only [List.getElem?_toArray, List.getElem?_cons_zero, List.getElem?_cons_succ] at g0 g1 t0 t1
                clear h6 h1 h2 hs
                go_wp2
                refine bodyPost_ret (v := .tuple #[.agg #[.bool false, .slice none 0 0], .bool false]) (by simp [results, Tryd.results56, go_sem, t0, t1]) rfl ?_
                exact ⟨_, by rw [HNF.out], fun h => (by rw [HNF.out] at h; cases h), fun _ => ⟨false, _, 0, rfl, NatAt.nil _, rfl⟩, HBF2.out⟩
            · obtain rfl : j = n := by omega
              have hz : ((j - j : Nat) : Int) = 0 := by omega
              rw [hz]
              clear hz
              have HFIT := Lib.hid (raised_fits HZ.out HD.out)
              have x0 := box_cell h6 0
              have x1 := box_cell h6 1
              have g0 := box_cell h2 0
              have g1 := box_cell h2 1
              have f0 := box_frozen h2 0
              have f1 := box_frozen h2 1
              have hs := store2 h2 (.bool b) (.slice a0 l0 c0)
              have t0 := box_cell hs.1 0
              have t1 := box_cell hs.1 1
              have HF := Lib.hid (natAt_set h2 HK.out b (.slice a0 l0 c0))
              have HBF2 := Lib.hid ((hb.setCell (p := ⟨w.heap.size + 1, 0, none⟩) (Nat.le_succ _) (.bool b)).setCell (p := ⟨w.heap.size + 1, 1, none⟩) (Nat.le_succ _) (.slice a0 l0 c0))
              simp only [List.getElem?_toArray, List.getElem?_cons_zero, List.getElem?_cons_succ] at x0 x1 g0 g1 t0 t1
              clear h6 h1 h2 hs
              go_wp2
              refine bodyPost_ret (v := .tuple #[.agg #[.bool b, .slice a0 l0 c0], .bool true]) (by simp [results, Tryd.results56, go_sem, t0, t1]) rfl ?_
              exact ⟨_, by rw [HFIT.out], fun _ => ⟨_, _, k, rfl, HF.out, HZ.out⟩, fun h => (by rw [HFIT.out] at h; cases h), HBF2.out⟩
end Go.Proofs.YtpmadgmjkljbgaaDoor
