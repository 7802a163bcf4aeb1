/- Part 2 of the proof. -/
import Derived.Test.YtpmadgmjkljbgaaDoorM1

/- Walks: Double (brindlewoodref3). -/
namespace Go.Proofs.YtpmadgmjkljbgaaDoor
open Go.RowKit

theorem own_cellN {W : World} {base g c n : Nat} {e : TypeId} {l : List Nat} (h : W.ownsRow base e 1 (.slice (some ⟨g, 0, none⟩) n c) n (l.map cellN)) (hl : l.length = n) {j : Nat} (hj : j < l.length) : W.cell? ⟨g, j, none⟩ = some (.int .i64 ((l[j] : Nat) : Int)) := by
  subst hl
  obtain ⟨a, cap, he, _, _, hc⟩ := rowN_own h
  simp only [Value.slice.injEq, true_and] at he
  obtain ⟨rfl, rfl⟩ := he
  obtain ⟨b, off, e, h1⟩ := hc j hj
  simp only [Option.some.injEq, Addr.mk.injEq, and_true] at e
  obtain ⟨rfl, rfl⟩ := e
  simpa using h1

set_option maxRecDepth 100000 in
set_option maxHeartbeats 2000000 in
theorem Double_any (av : Value) (x : Nat) (one : Bool) (w : World) (ha : NatAt w av x) (na : (dig x).length ≤ 1000000) :
    Calls Tryd.prog 65 #[av, .bool one] w fun e w' => ∃ v', e = .returned v' ∧ NatAt w' v' (2 * x + one.toNat) ∧ Below w.heap.size w w' := by
  have DA := Lib.hid (dig_Dg x)
  have HX := Lib.hid (V_dig x)
  unfold NatAt at ha
  generalize dig x = la at *
  have HA := Lib.hid ha
  obtain ⟨aa, ac, rfl, hal, ham, -⟩ := ha
  obtain ⟨i0, hii, hz0, hz1, hz2⟩ := info_parts infoI
  go_enter Tryd.func65, Tryd.ntmps65
  go_upto_if 9 with fail
  go_cut [5] (fun s5 wx => s5 = .int .i64 (one.toNat : Nat) ∧ w = wx)
  case first =>
    cases one with
    | true =>
      go_wp2
      go_meet
      exact ⟨rfl, rfl⟩
    | false =>
      go_wp2
      go_meet
      exact ⟨rfl, rfl⟩
  case rest =>
  obtain ⟨rfl, rfl⟩ := hcut
  have hone : one.toNat ≤ 1 := by cases one <;> simp
  generalize hon : one.toNat = on at *
  have HON := Lib.hid hon
  clear hon
  go_wp2
  go_loopg [5, 6, 7] la.length (fun q s5 s6 s7 wr => ∃ (k c : Nat) (o : List Nat), s7 = .int .i64 k ∧ s5 = .int .i64 c ∧ c ≤ 1 ∧ k ≤ la.length ∧ la.length - k ≤ q ∧ wr.ownsRow w.heap.size 3 1 s6 o.length (o.map cellN) ∧ o.length = k ∧
    Hid (V o + c * 65536 ^ k = 2 * V (la.take k) + on) ∧ Hid (Dg o) ∧ Below w.heap.size w wr)
  case atStart => exact ⟨0, on, [], rfl, rfl, hone, by omega, by omega, World.ownsRow_nil _ _ _ _, rfl, by unfold Hid; simp [V_nil], Dg.nil, Below.refl _ _⟩
  case round =>
    obtain ⟨k, c, o, rfl, rfl, hc1, hkl, hq, hown, hol, hV, hD, hb⟩ := hrel
    have HOL := Lib.hid hol
    by_cases hA : k < la.length
    · have i1 : ((k : Int) < (la.length : Int)) := by omega
      obtain ⟨a', c', he, _, _, hc⟩ := HA.out.below hb
      simp only [Value.slice.injEq, true_and] at he
      obtain ⟨rfl, rfl⟩ := he
      obtain ⟨b1, o1, rfl, z1⟩ := hc k hA
      have hp := DA.out.at hA
      have HS := Lib.hid (double_step hV.out hol hA rfl)
      clear hc hV
      generalize la[k] = p at *
      have hx : 2 * (p : Int) + (c : Int) = ((2 * p + c : Nat) : Int) := by omega
      have T1 := Lib.hid (show (2 * (p : Int) + (c : Int)) % 65536 = (((2 * p + c) % 65536 : Nat) : Int) by rw [hx]; rfl)
      have T2 := Lib.hid (show (2 * (p : Int) + (c : Int)) / 65536 = (((2 * p + c) / 65536 : Nat) : Int) by rw [hx]; rfl)
      have HD2 := Lib.hid (hD.out.snoc (d := (2 * p + c) % 65536) (Nat.mod_lt _ (by omega)))
      have hx2 : (2 * p + c) / 65536 ≤ 1 := by omega
      have hol2 : o.length ≤ la.length := by omega
      clear hx hol
      go_wp2_with (at_builtin; refine wpList_append_own _ rfl _ _ 39 rfl w.heap.size 3 i0 (.int .i64 0) 1 8 Tryd.underlying39 hii hz0 hz1 hz2 rfl (by decide) _ _ _ rfl (hown.alloc _) ⟨wr.heap.size, 0, none⟩ 1 1 [.int .i64 ((2 * (p : Int) + (c : Int)) % 65536)] rfl rfl ?c1d1 ?c2d1 ?c3d1 ?c4d1 ?c5d1 ?_)
      try (case c1d1 => exact cell_one_new _ _ _)
      try (case c2d1 => simp [Value.oneCell'])
      case c3d1 => rw [maxLen_eq']; omega
      case c4d1 => omega
      case c5d1 => have := hb.size; simp; omega
      intro v' w2 hown2 hgr2 _
      have hb2 : Below w.heap.size w w2 := (hb.alloc hb.size _).grown hgr2 (by have := hb.size; simp; omega) (fun q hq => (hown.lt q hq).1)
      have hown3 := own_snoc (x := (2 * p + c) % 65536) hown2 rfl T1.out
      clear hown hown2 hgr2
      go_wp2
      go_roundg (la.length - (k + 1))
      case measure => omega
      case rel => exact ⟨k + 1, (2 * p + c) / 65536, _, by go_num, by rw [← T2.out], hx2, by omega, Nat.le_refl _, hown3, by simp [HOL.out], HS, HD2, hb2⟩
    · have hk' : k = la.length := by omega
      have hV2 := hV.out
      rw [hk', List.take_of_length_le (Nat.le_refl _), HX.out] at hV2
      have i1 : ¬ ((k : Int) < (la.length : Int)) := by omega
      by_cases hc0 : c = 0
      · subst hc0
        have hT := trim_any u6 o wr (rowN_own hown) hD.out
        rw [show V o = 2 * x + on by omega] at hT
        have HT := Lib.hid hT
        clear hT hV hV2 hk' hol
        go_wp2_with (go_at_call 66; refine HT.out.mono ?_; rintro e w3 ⟨v', rfl, hN, rfl⟩)
        go_ret
        exact ⟨_, rfl, by rw [HON.out]; exact hN, hb⟩
      · have i2 : ((c : Int) > 0) := by omega
        have HV3 := Lib.hid (show V (o ++ [c]) = 2 * x + on by rw [V_snoc, hol, hk', Nat.mul_comm]; exact hV2)
        have HD3 := Lib.hid (hD.out.snoc (d := c) (by omega))
        have hol2 : o.length ≤ la.length := by omega
        clear hV hV2 hk' hol hc0
        go_wp2_with (at_builtin; refine wpList_append_own _ rfl _ _ 39 rfl w.heap.size 3 i0 (.int .i64 0) 1 8 Tryd.underlying39 hii hz0 hz1 hz2 rfl (by decide) _ _ _ rfl (hown.alloc _) ⟨wr.heap.size, 0, none⟩ 1 1 [.int .i64 (c : Int)] rfl rfl ?c1d2 ?c2d2 ?c3d2 ?c4d2 ?c5d2 ?_)
        try (case c1d2 => exact cell_one_new _ _ _)
        try (case c2d2 => simp [Value.oneCell'])
        case c3d2 => rw [maxLen_eq']; omega
        case c4d2 => omega
        case c5d2 => have := hb.size; simp; omega
        intro v' w2 hown2 hgr2 _
        have hb2 : Below w.heap.size w w2 := (hb.alloc hb.size _).grown hgr2 (by have := hb.size; simp; omega) (fun q hq => (hown.lt q hq).1)
        have hown3 := own_snoc (x := c) hown2 rfl rfl
        have hT := trim_any v' (o ++ [c]) w2 (rowN_own hown3) HD3.out
        rw [HV3.out] at hT
        have HT := Lib.hid hT
        clear hown hown2 hgr2 hT
        go_wp2_with (go_at_call 66; refine HT.out.mono ?_; rintro e w3 ⟨v'', rfl, hN, rfl⟩)
        go_ret
        exact ⟨_, rfl, by rw [HON.out]; exact hN, hb2⟩

set_option maxRecDepth 100000 in
set_option maxHeartbeats 2000000 in
theorem Halve_any (av : Value) (x d : Nat) (w : World) (ha : NatAt w av x) (na : (dig x).length ≤ 1000000) (hd0 : 0 < d) (hd1 : d ≤ 65536) :
    Calls Tryd.prog 62 #[av, .int .i64 d] w fun e w' => ∃ v', e = .returned (.tuple #[v', .int .i64 ((x % d : Nat) : Int)]) ∧ NatAt w' v' (x / d) ∧ Below w.heap.size w w' := by
  have DA := Lib.hid (dig_Dg x)
  have HX := Lib.hid (V_dig x)
  unfold NatAt at ha
  generalize dig x = la at *
  have HA := Lib.hid ha
  obtain ⟨aa, ac, rfl, hal, ham, -⟩ := ha
  obtain ⟨i0, hii, hz0, hz1, hz2⟩ := info_parts infoI
  have hdz : ¬ ((d : Int) = 0) := by omega
  go_enter Tryd.func62, Tryd.ntmps62
  go_wp2_with (at_make; refine wpList_make_full _ rfl _ _ 39 rfl w.heap.size 3 i0 (.int .i64 0) 1 Tryd.underlying39 hii hz0 hz1 .i64 .i64 _ _ la.length rfl rfl rfl rfl (by rw [hz2]; omega) (by unfold maxLen; omega) (Nat.le_refl _) ?_; intro w0 hown0 hgrow0)
  have hownz : w0.ownsRow w.heap.size 3 1 (.slice (some ⟨w.heap.size, 0, none⟩) la.length la.length) la.length ((List.replicate la.length 0).map cellN) := by
    refine own_cast hown0 rfl ?_
    rw [Nat.mul_one]
    show (madeCells #[.int .i64 0] la.length).toList = _
    rw [toList_madeCells_one]
    simp [cellN]
  have hb0 : Below w.heap.size w w0 := below_of_grown hgrow0 (Nat.le_refl _) (fun k h => by cases h)
  clear hown0 hgrow0
  go_loopg [7, 8] la.length (fun q s7 s8 wr => ∃ (z : Int) (k R : Nat) (out : List Nat), s8 = .int .i64 z ∧ z + 1 = (k : Int) ∧ k ≤ la.length ∧ k ≤ q ∧ s7 = .int .i64 R ∧ R < d ∧ wr.ownsRow w.heap.size 3 1 (.slice (some ⟨w.heap.size, 0, none⟩) la.length la.length) la.length (out.map cellN) ∧ Hid (out.length = la.length) ∧
    Hid (V (la.drop k) = d * V (out.drop k) + R) ∧ Hid (Dg out) ∧ Below w.heap.size w wr)
  case atStart => exact ⟨_, la.length, 0, List.replicate la.length 0, rfl, by omega, Nat.le_refl _, Nat.le_refl _, rfl, hd0, hownz, by unfold Hid; simp, by unfold Hid; rw [List.drop_of_length_le (Nat.le_refl _), List.drop_of_length_le (by simp)]; simp [V_nil], Dg_zeros _, hb0⟩
  case round =>
    clear hownz hb0
    obtain ⟨z, k, R, out, rfl, hz, hk, hq, rfl, hR, hown, hol, hV, hD, hb⟩ := hrel
    cases k with
    | zero =>
      obtain rfl : z = -1 := by omega
      have hend := divide_end (show x = V out * d + R by have := hV.out; rw [List.drop_zero, List.drop_zero, HX.out] at this; rw [this, Nat.mul_comm]) hR
      have hT := trim_any (.slice (some ⟨w.heap.size, 0, none⟩) la.length la.length) out wr (rowN_own (own_cast hown hol.out.symm rfl)) hD.out
      rw [hend.1] at hT
      have HT := Lib.hid hT
      have HE := Lib.hid hend.2
      clear hT hend
      go_wp2_with (go_at_call 66; refine HT.out.mono ?_; rintro e w3 ⟨v', rfl, hN, rfl⟩)
      refine bodyPost_ret (v := .tuple #[v', .int .i64 (R : Int)]) (by simp [results, Tryd.results62, go_sem]) rfl ?_
      exact ⟨_, by rw [HE.out], hN, hb⟩
    | succ j =>
      obtain rfl : z = (j : Int) := by omega
      have hA : j < la.length := by omega
      obtain ⟨a', c', he, _, _, hc⟩ := HA.out.below hb
      simp only [Value.slice.injEq, true_and] at he
      obtain ⟨rfl, rfl⟩ := he
      obtain ⟨b1, o1, rfl, z1⟩ := hc j hA
      have hp := DA.out.at hA
      have HS := Lib.hid (halve_step (i := j) (y := R * 65536 + la[j]) hV.out hA hol.out rfl)
      have f0 := hown.frozenAt j
      have hoj : j < out.length := by rw [hol.out]; exact hA
      have z2 := own_cellN hown hol.out hoj
      clear hc hV hz
      generalize la[j] = p at *
      have hyd : (R * 65536 + p) / d < 65536 := by
        rw [Nat.div_lt_iff_lt_mul hd0]
        have : R * 65536 + 65536 ≤ d * 65536 := by omega
        rw [Nat.mul_comm 65536 d]; omega
      have HD2 := Lib.hid (hD.out.set j hyd)
      have HOL := Lib.hid (show (out.set j ((R * 65536 + p) / d)).length = la.length by simp [hol.out])
      have hR2 : (R * 65536 + p) % d < d := Nat.mod_lt _ hd0
      have T0 : ((R : Int) * 65536 + (p : Int)) = ((R * 65536 + p : Nat) : Int) := by omega
      have T1 : ((R : Int) * 65536 + (p : Int)) / (d : Int) = (((R * 65536 + p) / d : Nat) : Int) := by rw [T0]; rfl
      have T2 := Lib.hid (show ((R : Int) * 65536 + (p : Int)) % (d : Int) = (((R * 65536 + p) % d : Nat) : Int) by rw [T0]; rfl)
      have hset := hown.stored j (.int .i64 (((R : Int) * 65536 + (p : Int)) / (d : Int)))
      have HSET := Lib.hid (own_cast hset.1 rfl (show (out.map cellN).set j (.int .i64 (((R : Int) * 65536 + (p : Int)) / (d : Int))) = (out.set j ((R * 65536 + p) / d)).map cellN by rw [List.map_set, T1]; rfl))
      have hbS := hb.setCell (p := ⟨w.heap.size, j, none⟩) (Nat.le_refl _) (.int .i64 (((R : Int) * 65536 + (p : Int)) / (d : Int)))
      clear hset T0 T1 hyd
      go_wp2
      go_roundg j
      case measure => omega
      case rel => exact ⟨_, j, (R * 65536 + p) % d, out.set j ((R * 65536 + p) / d), rfl, by omega, by omega, Nat.le_refl _, by rw [← T2.out], hR2, HSET.out, HOL, HS, HD2, hbS⟩
end Go.Proofs.YtpmadgmjkljbgaaDoor

/- Walk: Common, the greatest common divisor (brindlewoodref3). -/
namespace Go.Proofs.YtpmadgmjkljbgaaDoor
open Go.RowKit

theorem NatAt.zero {w : World} {v : Value} (h : NatAt w v 0) : ∃ a c, v = .slice a 0 c := by
  unfold NatAt at h
  rw [dig_zero] at h
  obtain ⟨a, c, rfl, _⟩ := h
  exact ⟨a, c, rfl⟩
theorem NatAt.first {w : World} {v : Value} {n : Nat} (h : NatAt w v n) (h0 : n ≠ 0) : ∃ b off m c, v = .slice (some ⟨b, off, none⟩) (m + 1) c ∧ m + 1 ≤ c ∧ c ≤ 9223372036854775807 ∧ w.cell? ⟨b, off, none⟩ = some (.int .i64 ((n % 65536 : Nat) : Int)) := by
  unfold NatAt at h
  rw [dig_pos h0] at h
  obtain ⟨a, c, rfl, hl, hm, hc⟩ := h
  obtain ⟨b, off, rfl, h1⟩ := hc 0 (by simp)
  exact ⟨b, off, (dig (n / 65536)).length, c, rfl, hl, hm, by simpa using h1⟩
theorem dig_len_of_le {x y n : Nat} (h : x ≤ y) (hn : (dig y).length ≤ n) : (dig x).length ≤ n := Nat.le_trans (dig_len_mono h) hn
theorem twos_bound {x t a n : Nat} (h : 2 ^ t * a ≤ x) (ha : 0 < a) (hn : (dig x).length ≤ n) : t < 16 * n := by
  have h1 := dig_lt x
  have h2 : 65536 ^ (dig x).length ≤ 65536 ^ n := Nat.pow_le_pow_right (by omega) hn
  have h3 : 2 ^ t ≤ 2 ^ t * a := Nat.le_mul_of_pos_right _ ha
  have h4 : 65536 ^ n = 2 ^ (16 * n) := by rw [Nat.pow_mul]
  rcases Nat.lt_or_ge t (16 * n) with h5 | h5
  · exact h5
  · have h6 : 2 ^ (16 * n) ≤ 2 ^ t := Nat.pow_le_pow_right (by omega) h5
    omega
theorem half_le (a : Nat) : a / 2 ≤ a := Nat.div_le_self _ _
/-- One more two taken out. -/
theorem gcd_two {X a b t : Nat} (h : X = Nat.gcd a b * 2 ^ t) (ha : a % 2 = 0) (hb : b % 2 = 0) : X = Nat.gcd (a / 2) (b / 2) * 2 ^ (t + 1) := by
  rw [h, gcd_even2 ha hb, Nat.pow_succ, Nat.mul_comm 2, Nat.mul_assoc, Nat.mul_comm 2]

theorem gcd_len {x y n : Nat} (na : (dig x).length ≤ n) (nb : (dig y).length ≤ n) : (dig (Nat.gcd x y)).length ≤ n := by
  rcases Nat.eq_zero_or_pos x with rfl | hx
  · rw [Nat.gcd_zero_left]; exact nb
  · exact dig_len_of_le (Nat.gcd_le_left y hx) na

set_option maxRecDepth 100000 in
set_option maxHeartbeats 4000000 in
theorem Common_any (av bv : Value) (x y : Nat) (w : World) (ha : NatAt w av x) (hb : NatAt w bv y) (na : (dig x).length ≤ 100000) (nb : (dig y).length ≤ 100000) :
    Calls Tryd.prog 39 #[av, bv] w fun e w' => ∃ v', e = .returned v' ∧ NatAt w' v' (Nat.gcd x y) ∧ Below w.heap.size w w' := by
  have HA := Lib.hid ha
  have HB := Lib.hid hb
  have NA := Lib.hid na
  have NB := Lib.hid nb
  clear ha hb na nb
  go_enter Tryd.func39, Tryd.ntmps39
  go_upto_block 0 with fail
  go_cut [0, 1, 5] (fun s0 s1 s5 wx => ∃ a b t : Nat, NatAt wx s0 a ∧ NatAt wx s1 b ∧ s5 = .int .i64 t ∧ Hid (Nat.gcd x y = (a + b) * 2 ^ t) ∧ a ≤ x ∧ b ≤ y ∧ t ≤ 1600000 ∧ Below w.heap.size w wx)
  case first => as_aux_lemma =>
    go_wp2
    go_loopg [0, 1, 5] (x + y) (fun q s0 s1 s5 wr => ∃ a b t : Nat, NatAt wr s0 a ∧ NatAt wr s1 b ∧ s5 = .int .i64 t ∧ a + b ≤ q ∧ Hid (Nat.gcd x y = Nat.gcd a b * 2 ^ t) ∧ a ≤ x ∧ b ≤ y ∧ Hid (2 ^ t * a ≤ x) ∧ t ≤ 1600000 ∧ Below w.heap.size w wr)
    case atStart => exact ⟨x, y, 0, HA.out, HB.out, rfl, Nat.le_refl _, by unfold Hid; simp, Nat.le_refl _, Nat.le_refl _, by unfold Hid; simp, by omega, Below.refl _ _⟩
    case round =>
      obtain ⟨a, b, t, hA, hB, rfl, hq, hG, hax, hby, h2, ht, hbw⟩ := hrel
      by_cases ha0 : a = 0
      · subst ha0
        obtain ⟨va, vc, hva⟩ := hA.zero
        have HA2 := Lib.hid hA
        have HG2 := Lib.hid (show Nat.gcd x y = (0 + b) * 2 ^ t by rw [hG.out, Nat.gcd_zero_left, Nat.zero_add])
        subst hva
        clear hA hG
        go_wp2
        go_meet
        exact ⟨0, b, t, HA2.out, hB, rfl, HG2, hax, hby, ht, hbw⟩
      by_cases hb0 : b = 0
      · subst hb0
        obtain ⟨b1, o1, m1, c1, hva, hm1, hc1, z1⟩ := hA.first ha0
        obtain ⟨vb, vc, hvb⟩ := hB.zero
        have HA2 := Lib.hid hA
        have HB2 := Lib.hid hB
        have HG2 := Lib.hid (show Nat.gcd x y = (a + 0) * 2 ^ t by rw [hG.out, Nat.gcd_zero_right, Nat.add_zero])
        subst hva
        subst hvb
        have i1 : (((m1 + 1 : Nat) : Int) > 0) := by omega
        clear hA hB hG
        go_wp2
        go_meet
        exact ⟨a, 0, t, HA2.out, HB2.out, rfl, HG2, hax, hby, ht, hbw⟩
      obtain ⟨b1, o1, m1, c1, hva, hm1, hc1, z1⟩ := hA.first ha0
      obtain ⟨b2, o2, m2, c2, hvb, hm2, hc2, z2⟩ := hB.first hb0
      have HA2 := Lib.hid hA
      have HB2 := Lib.hid hB
      subst hva
      subst hvb
      have i1 : (((m1 + 1 : Nat) : Int) > 0) := by omega
      have i2 : (((m2 + 1 : Nat) : Int) > 0) := by omega
      have HPa := Lib.hid (show (a % 65536) % 2 = a % 2 by omega)
      have HPb := Lib.hid (show (b % 65536) % 2 = b % 2 by omega)
      clear hA hB
      generalize a % 65536 = p at *
      generalize b % 65536 = r at *
      by_cases hea : a % 2 = 0
      · have e1 : (((p : Int) % 2) == 0) = true := by have := HPa.out; simp; omega
        have hCa := Lib.hid (fun W (h : Below wr.heap.size wr W) => Halve_any _ a 2 W (HA2.out.below h) (Nat.le_trans (dig_len_of_le hax NA.out) (by omega)) (by omega) (by omega))
        by_cases heb : b % 2 = 0
        · have e2 : (((r : Int) % 2) == 0) = true := by have := HPb.out; simp; omega
          have hCb := Lib.hid (fun W (h : Below wr.heap.size wr W) => Halve_any _ b 2 W (HB2.out.below h) (Nat.le_trans (dig_len_of_le hby NB.out) (by omega)) (by omega) (by omega))
          have HG2 := Lib.hid (gcd_two hG.out hea heb)
          have H22 := Lib.hid (show 2 ^ (t + 1) * (a / 2) ≤ x by rw [Nat.pow_succ, Nat.mul_assoc, show 2 * (a / 2) = a by omega]; exact h2.out)
          have ht2 : t + 1 < 16 * 100000 := twos_bound H22.out (by omega) NA.out
          have hd : a / 2 + b / 2 < a + b := by omega
          have hax2 : a / 2 ≤ x := by omega
          have hby2 : b / 2 ≤ y := by omega
          clear hea heb hG h2 ha0 hb0
          go_wp2_with fail
          refine (hCa.out wr (Below.refl _ _)).mono ?_
          rintro e wh ⟨v', rfl, hN1, hbh⟩
          go_wp2_with fail
          refine (hCb.out wh hbh).mono ?_
          rintro e wi ⟨v'', rfl, hN2, hbi⟩
          have hN1' := hN1.below hbi
          have hbb := ext_trans hbw (ext_trans hbh hbi)
          clear hCa hCb hN1 hbh hbi
          go_wp2
          go_roundg (a / 2 + b / 2)
          case measure => omega
          case rel => exact ⟨a / 2, b / 2, t + 1, hN1', hN2, by go_num, Nat.le_refl _, HG2, hax2, hby2, H22, by omega, hbb⟩
        · have e2 : (((r : Int) % 2) == 0) = false := by have := HPb.out; simp; omega
          have HG2 := Lib.hid (show Nat.gcd x y = Nat.gcd (a / 2) b * 2 ^ t by rw [hG.out, gcd_even1 hea (by omega)])
          have H22 := Lib.hid (Nat.le_trans (Nat.mul_le_mul_left (2 ^ t) (half_le a)) h2.out)
          have hd : a / 2 + b < a + b := by omega
          have hax2 : a / 2 ≤ x := by omega
          clear hea heb hG h2 ha0 hb0
          go_wp2_with fail
          refine (hCa.out wr (Below.refl _ _)).mono ?_
          rintro e wh ⟨v', rfl, hN1, hbh⟩
          have hN2 := HB2.out.below hbh
          have hbb := ext_trans hbw hbh
          clear hCa hbh
          go_wp2
          go_roundg (a / 2 + b)
          case measure => omega
          case rel => exact ⟨a / 2, b, t, hN1, hN2, rfl, Nat.le_refl _, HG2, hax2, hby, H22, ht, hbb⟩
      · have e1 : (((p : Int) % 2) == 0) = false := by have := HPa.out; simp; omega
        by_cases heb : b % 2 = 0
        · have e2 : (((r : Int) % 2) == 0) = true := by have := HPb.out; simp; omega
          have hCb := Lib.hid (fun W (h : Below wr.heap.size wr W) => Halve_any _ b 2 W (HB2.out.below h) (Nat.le_trans (dig_len_of_le hby NB.out) (by omega)) (by omega) (by omega))
          have HG2 := Lib.hid (show Nat.gcd x y = Nat.gcd a (b / 2) * 2 ^ t by rw [hG.out, Nat.gcd_comm, gcd_even1 heb (by omega), Nat.gcd_comm])
          have hd : a + b / 2 < a + b := by omega
          have hby2 : b / 2 ≤ y := by omega
          clear hea heb hG ha0 hb0
          go_wp2_with fail
          refine (hCb.out wr (Below.refl _ _)).mono ?_
          rintro e wh ⟨v', rfl, hN2, hbh⟩
          have hN1 := HA2.out.below hbh
          have hbb := ext_trans hbw hbh
          clear hCb hbh
          go_wp2
          go_roundg (a + b / 2)
          case measure => omega
          case rel => exact ⟨a, b / 2, t, hN1, hN2, rfl, Nat.le_refl _, HG2, hax, hby2, h2, ht, hbb⟩
        · have e2 : (((r : Int) % 2) == 0) = false := by have := HPb.out; simp; omega
          have hCc := Lib.hid (Compare_any _ _ a b wr HA2.out HB2.out)
          by_cases hge : b ≤ a
          · have hcm : cmpN a b ≥ 0 := by unfold cmpN; rw [if_neg (by omega)]; split <;> omega
            have hCm := Lib.hid (fun W (h : Below wr.heap.size wr W) => Minus_any _ _ a b W (HA2.out.below h) (HB2.out.below h) hge (Nat.le_trans (dig_len_of_le hax NA.out) (by omega)))
            have HG2 := Lib.hid (show Nat.gcd x y = Nat.gcd (a - b) b * 2 ^ t by rw [hG.out, gcd_less hge])
            have H22 := Lib.hid (Nat.le_trans (Nat.mul_le_mul_left (2 ^ t) (Nat.sub_le a b)) h2.out)
            have hd : a - b + b < a + b := by omega
            have hax2 : a - b ≤ x := by omega
            clear hea heb hG h2 ha0 hb0 hge
            generalize cmpN a b = cm at *
            go_wp2_with fail
            refine hCc.out.mono ?_
            rintro e wh ⟨rfl, hbh⟩
            go_wp2_with fail
            refine (hCm.out wh hbh).mono ?_
            rintro e wi ⟨v', rfl, hN1, hbi⟩
            have hbj := ext_trans hbh hbi
            have hN2 := HB2.out.below hbj
            have hbb := ext_trans hbw hbj
            clear hCc hCm hbh hbi hbj
            go_wp2
            go_roundg (a - b + b)
            case measure => omega
            case rel => exact ⟨a - b, b, t, hN1, hN2, rfl, Nat.le_refl _, HG2, hax2, hby, H22, ht, hbb⟩
          · have hcm : ¬ (cmpN a b ≥ 0) := by unfold cmpN; rw [if_pos (by omega)]; omega
            have hCm := Lib.hid (fun W (h : Below wr.heap.size wr W) => Minus_any _ _ b a W (HB2.out.below h) (HA2.out.below h) (by omega) (Nat.le_trans (dig_len_of_le hby NB.out) (by omega)))
            have HG2 := Lib.hid (show Nat.gcd x y = Nat.gcd a (b - a) * 2 ^ t by rw [hG.out, Nat.gcd_comm, gcd_less (show a ≤ b by omega), Nat.gcd_comm])
            have hd : a + (b - a) < a + b := by omega
            have hby2 : b - a ≤ y := by omega
            clear hea heb hG ha0 hb0 hge
            generalize cmpN a b = cm at *
            go_wp2_with fail
            refine hCc.out.mono ?_
            rintro e wh ⟨rfl, hbh⟩
            go_wp2_with fail
            refine (hCm.out wh hbh).mono ?_
            rintro e wi ⟨v', rfl, hN2, hbi⟩
            have hbj := ext_trans hbh hbi
            have hN1 := HA2.out.below hbj
            have hbb := ext_trans hbw hbj
            clear hCc hCm hbh hbi hbj
            go_wp2
            go_roundg (a + (b - a))
            case measure => omega
            case rel => exact ⟨a, b - a, t, hN1, hN2, rfl, Nat.le_refl _, HG2, hax, hby2, h2, ht, hbb⟩
  case rest =>
    obtain ⟨a, b, t, hA, hB, rfl, hG, hax, hby, ht, hbw⟩ := hcut
    have HGL := Lib.hid (gcd_len NA.out NB.out)
    have hP := Lib.hid (Plus_any _ _ a b wc hA hB (Nat.le_trans (dig_len_of_le hax NA.out) (by omega)) (Nat.le_trans (dig_len_of_le hby NB.out) (by omega)))
    clear hA hB
    go_wp2_with fail
    refine hP.out.mono ?_
    rintro e w1 ⟨v', rfl, hN, hb1⟩
    have hbb := ext_trans hbw hb1
    have HN := Lib.hid hN
    clear hP hN hbw hb1 hax hby
    generalize a + b = ab at *
    go_wp2
    go_loopg [5, 6] t (fun q s5 s6 wr => ∃ s o : Nat, s5 = .int .i64 s ∧ s ≤ q ∧ s ≤ 1600000 ∧ NatAt wr s6 o ∧ Hid (Nat.gcd x y = o * 2 ^ s) ∧ Below w.heap.size w wr)
    case atStart => exact ⟨t, ab, rfl, Nat.le_refl _, ht, HN.out, hG, hbb⟩
    case round =>
      clear hbb HN hG
      obtain ⟨s, o, rfl, hq, hs, hN, hG, hb⟩ := hrel
      by_cases hs0 : s = 0
      · subst hs0
        have HF := Lib.hid (show NatAt wr _ (Nat.gcd x y) by rw [hG.out, Nat.pow_zero, Nat.mul_one]; exact hN)
        clear hG hN
        go_wp2
        go_ret
        exact ⟨_, rfl, HF.out, hb⟩
      · have i1 : ((s : Int) > 0) := by omega
        have hol : o ≤ Nat.gcd x y := by rw [hG.out]; exact Nat.le_mul_of_pos_right _ (Nat.pow_pos (by omega))
        have hD := Lib.hid (Double_any _ o false wr hN (Nat.le_trans (dig_len_of_le hol HGL.out) (by omega)))
        have HG2 := Lib.hid (show Nat.gcd x y = (2 * o + false.toNat) * 2 ^ (s - 1) by
          rw [hG.out]
          obtain ⟨r, rfl⟩ : ∃ r, s = r + 1 := ⟨s - 1, by omega⟩
          rw [Nat.pow_succ, Nat.add_sub_cancel]
          show o * (2 ^ r * 2) = (2 * o + 0) * 2 ^ r
          rw [Nat.add_zero, Nat.mul_comm (2 ^ r) 2, ← Nat.mul_assoc, Nat.mul_comm o 2])
        clear hG hol hN
        go_wp2_with fail
        refine hD.out.mono ?_
        rintro e w2 ⟨v'', rfl, hN2, hb2⟩
        clear hD
        go_wp2
        go_roundg (s - 1)
        case measure => omega
        case rel => exact ⟨s - 1, _, by go_num, Nat.le_refl _, by omega, hN2, HG2, ext_trans hb hb2⟩
end Go.Proofs.YtpmadgmjkljbgaaDoor

/- Walks: Binary, Ones (brindlewoodref3). -/
namespace Go.Proofs.YtpmadgmjkljbgaaDoor
open Go.RowKit

abbrev Bools (w : World) (v : Value) (l : List Bool) : Prop := RowOf Value.bool w v l
theorem infoB : (Tryd.prog.info? 4).map (fun i => (i.zero, i.size, i.bytes)) = some (some (.bool false), 1, 1) := by kernel_rfl

set_option maxRecDepth 100000 in
set_option maxHeartbeats 2000000 in
theorem Binary_any (bv : Value) (l : List Bool) (w : World) (hv : Bools w bv l) (hn : l.length ≤ 100000000) :
    Calls Tryd.prog 72 #[bv] w fun e w' => ∃ v', e = .returned v' ∧ NatAt w' v' (VB l) ∧ Below w.heap.size w w' := by
  have HV := Lib.hid hv
  obtain ⟨ba, bc, rfl, -⟩ := hv
  obtain ⟨i0, hii, hz0, hz1, hz2⟩ := info_parts infoI
  go_enter Tryd.func72, Tryd.ntmps72
  go_wp2
  go_loopg [3, 4] l.length (fun q s3 s4 wr => ∃ (j : Nat) (o : List Nat), s4 = .int .i64 ((16 * j : Nat) : Int) ∧ l.length - 16 * j ≤ q ∧ 16 * j ≤ l.length + 15 ∧ wr.ownsRow w.heap.size 3 1 s3 o.length (o.map cellN) ∧ Hid (o.length = j) ∧ Hid (V o = VB (l.take (16 * j))) ∧ Hid (Dg o) ∧ Below w.heap.size w wr)
  case atStart => exact ⟨0, [], rfl, by omega, by omega, World.ownsRow_nil _ _ _ _, rfl, rfl, Dg.nil, Below.refl _ _⟩
  case round =>
    obtain ⟨j, o, rfl, hq, hjl, hown, hol, hV, hD, hb⟩ := hrel
    by_cases hA : 16 * j < l.length
    · have i1 : (((16 * j : Nat) : Int) < (l.length : Int)) := by omega
      have HVr := Lib.hid (HV.out.below hb)
      have hol2 : o.length ≤ l.length := by rw [hol.out]; omega
      obtain ⟨wo, hwo⟩ : ∃ wo : World, wo = wr := ⟨_, rfl⟩
      subst hwo
      have HST := Lib.hid (binary_step hV.out hol.out hA)
      have HC0 := Lib.hid (chunk_lt l (16 * j))
      have HCT := Lib.hid (chunk_top l (16 * j))
      have HCS := Lib.hid (fun k (hk : k < 16) => chunk_step (l := l) (i := 16 * j) hk)
      have HSL := Lib.hid (show l.length - 16 * (j + 1) < l.length - 16 * j by omega)
      clear hV
      generalize hI : 16 * j = I at *
      have HI := Lib.hid hI
      clear hI
      go_wp2
      go_loopg [5, 6] 16 (fun q s5 s6 wr => ∃ (z : Int) (m : Nat), s6 = .int .i64 z ∧ z + 1 = (m : Int) ∧ m ≤ 16 ∧ m ≤ q ∧ s5 = .int .i64 ((chunk l I m : Nat) : Int) ∧ wr = wo)
      case atStart => exact ⟨15, 16, rfl, by omega, by omega, by omega, by rw [HCT.out]; rfl, rfl⟩
      case round =>
        obtain ⟨z, m, rfl, hz, hm, hq2, rfl, rfl⟩ := hrel
        cases m with
        | zero =>
          obtain rfl : z = -1 := by omega
          have hc := HC0.out 0
          have HD2 := Lib.hid (hD.out.snoc (d := chunk l I 0) hc)
          generalize chunk l I 0 = x at *
          go_wp2_with (at_builtin; refine wpList_append_own _ rfl _ _ 39 rfl w.heap.size 3 i0 (.int .i64 0) 1 8 Tryd.underlying39 hii hz0 hz1 hz2 rfl (by decide) _ _ _ rfl (hown.alloc _) ⟨wr.heap.size, 0, none⟩ 1 1 [.int .i64 ((x : Nat) : Int)] rfl rfl ?c1bi ?c2bi ?c3bi ?c4bi ?c5bi ?_)
          try (case c1bi => exact cell_one_new _ _ _)
          try (case c2bi => simp [Value.oneCell'])
          case c3bi => rw [maxLen_eq']; omega
          case c4bi => omega
          case c5bi => have := hb.size; simp; omega
          intro v' w2 hown2 hgr2 _
          have hb2 : Below w.heap.size w w2 := (hb.alloc hb.size _).grown hgr2 (by have := hb.size; simp; omega) (fun q hq => (hown.lt q hq).1)
          have hown3 := own_snoc (x := x) hown2 rfl rfl
          clear hown hown2 hgr2
          go_wp2
          go_roundg (l.length - 16 * (j + 1))
          case measure => have := HSL.out; omega
          case rel => exact ⟨j + 1, _, by rw [show 16 * (j + 1) = I + 16 by have := HI.out; omega]; go_num, Nat.le_refl _, by have := HI.out; omega, hown3, by unfold Hid; simp [hol.out], HST, HD2, hb2⟩
        | succ k =>
          obtain rfl : z = (k : Int) := by omega
          have hc := HC0.out (k + 1)
          have hk16 : k < 16 := by omega
          have HX := Lib.hid (HCS.out k hk16)
          clear hz
          by_cases hB : I + k < l.length
          · have i2 : ((I : Int) + (k : Int) < (l.length : Int)) := by omega
            obtain ⟨a', c', he, _, _, hcc⟩ := HVr.out
            simp only [Value.slice.injEq, true_and] at he
            obtain ⟨rfl, rfl⟩ := he
            obtain ⟨b1, o1, rfl, z1⟩ := hcc (I + k) hB
            have HX2 := Lib.hid (HX.out.trans (by rw [dif_pos hB]))
            clear hcc HX
            generalize l[I + k] = bit at *
            cases bit with
            | true =>
              have HX3 := Lib.hid (show chunk l I k = 2 * chunk l I (k + 1) + 1 from HX2.out)
              clear HX2
              generalize chunk l I (k + 1) = x at *
              go_wp2
              go_roundg k
              case measure => omega
              case rel => exact ⟨_, k, rfl, by omega, by omega, Nat.le_refl _, by rw [HX3.out]; go_num, rfl⟩
            | false =>
              have HX3 := Lib.hid (show chunk l I k = 2 * chunk l I (k + 1) from HX2.out)
              clear HX2
              generalize chunk l I (k + 1) = x at *
              go_wp2
              go_roundg k
              case measure => omega
              case rel => exact ⟨_, k, rfl, by omega, by omega, Nat.le_refl _, by rw [HX3.out]; go_num, rfl⟩
          · have i2 : ¬ ((I : Int) + (k : Int) < (l.length : Int)) := by omega
            have HX3 := Lib.hid (show chunk l I k = 2 * chunk l I (k + 1) by have := HX.out; rw [dif_neg hB] at this; exact this)
            clear HX
            generalize chunk l I (k + 1) = x at *
            go_wp2
            go_roundg k
            case measure => omega
            case rel => exact ⟨_, k, rfl, by omega, by omega, Nat.le_refl _, by rw [HX3.out]; go_num, rfl⟩
    · have i1 : ¬ (((16 * j : Nat) : Int) < (l.length : Int)) := by omega
      have hT := trim_any u3 o wr (rowN_own hown) hD.out
      rw [hV.out, List.take_of_length_le (by omega)] at hT
      have HT := Lib.hid hT
      clear hT hV
      generalize 16 * j = I at *
      go_wp2_with (go_at_call 66; refine HT.out.mono ?_; rintro e w3 ⟨v', rfl, hN, rfl⟩)
      go_ret
      exact ⟨_, rfl, hN, hb⟩
end Go.Proofs.YtpmadgmjkljbgaaDoor

/- Walk: Ones (brindlewoodref3). -/
namespace Go.Proofs.YtpmadgmjkljbgaaDoor
open Go.RowKit

theorem bools_own {w : World} {base : Nat} {e : TypeId} {v : Value} {l : List Bool} (h : w.ownsRow base e 1 v l.length (l.map Value.bool)) : Bools w v l := by
  have h' : w.ownsRow base e 1 v (l.map Value.bool).length (l.map Value.bool) := by simpa using h
  obtain ⟨a, cap, rfl, hl, hm, hc⟩ := Row_of_own h'
  refine ⟨a, cap, by simp, by simpa using hl, hm, fun i hi => ?_⟩
  obtain ⟨b, off, rfl, hcell⟩ := hc i (by simpa using hi)
  exact ⟨b, off, rfl, by simpa using hcell⟩
theorem own_snocB {w : World} {base : Nat} {e : TypeId} {v : Value} {o : List Bool} {x y : Bool} {n : Nat} (h : w.ownsRow base e 1 v n (o.map Value.bool ++ [.bool y])) (hn : n = o.length + 1) (hy : y = x) : w.ownsRow base e 1 v (o ++ [x]).length ((o ++ [x]).map Value.bool) :=
  own_cast h (by simp [hn]) (by simp [hy])
theorem bit_nat (x : Nat) : (((x : Int) % 2) == 1) = (x % 2 == 1) := by
  rw [Bool.eq_iff_iff, beq_iff_eq, beq_iff_eq]; omega
theorem half_bound {x m : Nat} (h : x * 2 ^ m ≤ 65535) : x / 2 * 2 ^ (m + 1) ≤ 65535 := by
  have h1 : x / 2 * 2 ^ (m + 1) ≤ x * 2 ^ m := by
    rw [Nat.pow_succ, Nat.mul_comm (2 ^ m) 2, ← Nat.mul_assoc]
    exact Nat.mul_le_mul_right _ (by omega)
  omega

set_option maxRecDepth 100000 in
set_option maxHeartbeats 2000000 in
theorem Ones_any (av : Value) (x : Nat) (w : World) (ha : NatAt w av x) (na : (dig x).length ≤ 1000000) :
    Calls Tryd.prog 57 #[av] w fun e w' => ∃ v', e = .returned v' ∧ Bools w' v' (bitsN x) ∧ Below w.heap.size w w' := by
  have DA := Lib.hid (dig_Dg x)
  have HX := Lib.hid (V_dig x)
  unfold NatAt at ha
  generalize dig x = la at *
  have HA := Lib.hid ha
  obtain ⟨aa, ac, rfl, hal, ham, -⟩ := ha
  obtain ⟨i1, hji, hy0, hy1, hy2⟩ := info_parts infoB
  go_enter Tryd.func57, Tryd.ntmps57
  go_wp2
  go_loopg [3, 4] la.length (fun q s3 s4 wr => ∃ (k : Nat) (o : List Bool), s4 = .int .i64 k ∧ k ≤ la.length ∧ la.length - k ≤ q ∧ wr.ownsRow w.heap.size 4 1 s3 o.length (o.map Value.bool) ∧ Hid (o.length = 16 * k) ∧ Hid (VB o = V (la.take k)) ∧ Below w.heap.size w wr)
  case atStart => exact ⟨0, [], rfl, by omega, by omega, World.ownsRow_nil _ _ _ _, rfl, rfl, Below.refl _ _⟩
  case round =>
    obtain ⟨k, o, rfl, hk, hq, hown, hol, hV, hb⟩ := hrel
    by_cases hA : k < la.length
    · have i1' : ((k : Int) < (la.length : Int)) := by omega
      obtain ⟨a', c', he, _, _, hc⟩ := HA.out.below hb
      simp only [Value.slice.injEq, true_and] at he
      obtain ⟨rfl, rfl⟩ := he
      obtain ⟨b1, o1, rfl, z1⟩ := hc k hA
      have hp := DA.out.at hA
      have HVS := Lib.hid (show VB o + la[k] * 2 ^ (16 * k) = V (la.take (k + 1)) by
        rw [V_take_succ hA, hV.out, Nat.pow_mul, Nat.mul_comm])
      have HOWN := Lib.hid hown
      clear hc hV hown
      generalize la[k] = p at *
      generalize hXX : V (la.take (k + 1)) = X at *
      have HXX := Lib.hid hXX
      clear hXX
      go_wp2
      go_loopg [3, 5, 6] 16 (fun q s3 s5 s6 wr => ∃ (m xx : Nat) (o : List Bool), s6 = .int .i64 m ∧ s5 = .int .i64 xx ∧ m ≤ 16 ∧ 16 - m ≤ q ∧ xx < 65536 ∧ wr.ownsRow w.heap.size 4 1 s3 o.length (o.map Value.bool) ∧ Hid (o.length = 16 * k + m) ∧ Hid (VB o + xx * 2 ^ (16 * k + m) = X) ∧ Hid (xx * 2 ^ m ≤ 65535) ∧ Below w.heap.size w wr)
      case atStart => exact ⟨0, p, o, rfl, rfl, by omega, by omega, hp, HOWN.out, hol, HVS, by unfold Hid; simp; omega, hb⟩
      case round =>
        clear z1 HOWN hb hol HVS
        obtain ⟨m, xx, o, rfl, rfl, hm, hq2, hxx, hown, hol, hVB, hbd, hb⟩ := hrel
        by_cases hM : m < 16
        · have i2 : ((m : Int) < 16) := by omega
          have T1 := Lib.hid (bit_nat xx)
          have T2 := Lib.hid (show (xx : Int) / 2 = ((xx / 2 : Nat) : Int) from rfl)
          have HV2 := Lib.hid (ones_step hVB.out hol.out)
          have HB2 := Lib.hid (half_bound hbd.out)
          have hol2 : o.length ≤ 16 * la.length := by rw [hol.out]; omega
          have hx2 : xx / 2 < 65536 := by omega
          clear hVB hbd
          go_wp2_with (at_builtin; refine wpList_append_own _ rfl _ _ 46 rfl w.heap.size 4 i1 (.bool false) 1 1 Tryd.underlying46 hji hy0 hy1 hy2 rfl (by decide) _ _ _ rfl (hown.alloc _) ⟨wr.heap.size, 0, none⟩ 1 1 [.bool (((xx : Int) % 2) == 1)] rfl rfl ?c1on ?c2on ?c3on ?c4on ?c5on ?_)
          try (case c1on => exact cell_one_new _ _ _)
          try (case c2on => simp [Value.oneCell'])
          case c3on => rw [maxLen_eq']; omega
          case c4on => omega
          case c5on => have := hb.size; simp; omega
          intro v' w2 hown2 hgr2 _
          have hb2 : Below w.heap.size w w2 := (hb.alloc hb.size _).grown hgr2 (by have := hb.size; simp; omega) (fun q hq => (hown.lt q hq).1)
          have hown3 := own_snocB (x := (xx % 2 == 1)) hown2 rfl T1.out
          clear hown hown2 hgr2
          go_wp2
          go_roundg (16 - (m + 1))
          case measure => omega
          case rel => exact ⟨m + 1, xx / 2, _, by go_num, by rw [← T2.out], by omega, Nat.le_refl _, hx2, hown3, by unfold Hid; simp [hol.out]; omega, HV2, HB2, hb2⟩
        · obtain rfl : m = 16 := by omega
          have hxz : xx = 0 := by have := hbd.out; omega
          have HVZ := Lib.hid (show VB o = X by have := hVB.out; rw [hxz] at this; simpa using this)
          have HOL := Lib.hid (show o.length = 16 * (k + 1) by rw [hol.out]; omega)
          clear hbd hxz hVB hol
          go_wp2
          go_roundg (la.length - (k + 1))
          case measure => omega
          case rel => exact ⟨k + 1, o, by go_num, by omega, Nat.le_refl _, hown, HOL, by unfold Hid; rw [HXX.out]; exact HVZ.out, hb⟩
    · have i1' : ¬ ((k : Int) < (la.length : Int)) := by omega
      have HVX := Lib.hid (show VB o = x by rw [hV.out, List.take_of_length_le (by omega)]; exact HX.out)
      obtain ⟨a3, c3, e3, hl3, hm3, hc3⟩ := bools_own hown
      have HC := Lib.hid hc3
      have hol2 : o.length ≤ 16 * la.length := by rw [hol.out]; omega
      obtain ⟨wo, hwo⟩ : ∃ wo : World, wo = wr := ⟨_, rfl⟩
      subst hwo
      subst e3
      clear hown hV hc3 hol
      go_wp2
      go_loopg [3] o.length (fun q s3 wr => ∃ m : Nat, m ≤ o.length ∧ m ≤ q ∧ s3 = .slice a3 m c3 ∧ Hid (VB (o.take m) = VB o) ∧ wr = wo)
      case atStart => exact ⟨o.length, Nat.le_refl _, Nat.le_refl _, rfl, by unfold Hid; rw [List.take_of_length_le (Nat.le_refl _)], rfl⟩
      case round =>
        obtain ⟨m, hml, hq2, rfl, hVm, rfl⟩ := hrel
        cases m with
        | zero =>
          have h0 : x = 0 := by rw [← HVX.out, ← hVm.out]; rfl
          have HF := Lib.hid (show Bools wr (.slice a3 0 c3) (bitsN x) by rw [h0, bitsN_zero]; exact ⟨a3, c3, rfl, by simp, hm3, fun i h => by simp at h⟩)
          clear h0
          go_wp2
          go_ret
          exact ⟨_, rfl, HF.out, hb⟩
        | succ m =>
          obtain ⟨b, off, rfl, hcell⟩ := HC.out m (by omega)
          have j1 : (((m + 1 : Nat) : Int)) > 0 := by omega
          have j2 : (((m + 1 : Nat) : Int)) - 1 = (m : Int) := by omega
          cases h0 : o[m] with
          | false =>
            have HV2 := Lib.hid ((trimB_step (by omega) h0).symm.trans hVm.out)
            rw [h0] at hcell
            have hsl := cut_end Tryd.underlying46 (by intro W; obtain ⟨i0, hi, -, hs, -⟩ := info_parts infoB; simp [sizeOf, typeInfo, hi, hs]) b off (m + 1) m c3 (by omega) (by omega)
            clear h0
            go_wp2
            go_roundg m
            case measure => omega
            case rel => exact ⟨m, by omega, Nat.le_refl _, rfl, HV2, rfl⟩
          | true =>
            have hfin : Bools wr (.slice (some ⟨b, off, none⟩) (m + 1) c3) (bitsN x) := by
              rw [← HVX.out, ← hVm.out, trimB_end hml (fun _ => h0)]
              refine ⟨some ⟨b, off, none⟩, c3, by simp; omega, by simp; omega, hm3, fun i hi => ?_⟩
              obtain ⟨b', off', e, h1⟩ := HC.out i (by simp at hi; omega)
              exact ⟨b', off', e, by rw [h1, List.getElem_take]⟩
            have HF := Lib.hid hfin
            rw [h0] at hcell
            clear h0 hfin
            go_wp2
            go_ret
            exact ⟨_, rfl, HF.out, hb⟩
end Go.Proofs.YtpmadgmjkljbgaaDoor

/- Walk: Divide (brindlewoodref3). -/
namespace Go.Proofs.YtpmadgmjkljbgaaDoor
open Go.RowKit

theorem own_bool {W : World} {base g c n : Nat} {e : TypeId} {l : List Bool} (h : W.ownsRow base e 1 (.slice (some ⟨g, 0, none⟩) n c) n (l.map Value.bool)) (hl : l.length = n) {j : Nat} (hj : j < l.length) : W.cell? ⟨g, j, none⟩ = some (.bool l[j]) := by
  subst hl
  obtain ⟨a, cap, he, _, _, hc⟩ := bools_own h
  simp only [Value.slice.injEq, true_and] at he
  obtain ⟨rfl, rfl⟩ := he
  obtain ⟨b, off, e, h1⟩ := hc j hj
  simp only [Option.some.injEq, Addr.mk.injEq, and_true] at e
  obtain ⟨rfl, rfl⟩ := e
  simpa using h1
theorem grown_setC' (w : World) (g j : Nat) (u : Value) : w.grownBy (w.setCell ⟨g, j, none⟩ u) (some g) :=
  ⟨rfl, rfl, rfl, by simp, fun k _ hk => by rw [Below.heap_setCell _ _ _ _ (fun e => hk (by rw [e]))]⟩
theorem set_same {q : List Bool} {j : Nat} (hj : j < q.length) (h : q[j] = false) : q.set j false = q := by
  apply List.ext_getElem
  · simp
  · intro i h1 h2
    rw [List.getElem_set]
    split
    · next e => subst e; exact h.symm
    · rfl

theorem bits_len {x n : Nat} (h : (dig x).length ≤ n) : (bitsN x).length ≤ 16 * n := by
  refine bitsN_length_le (Nat.lt_of_lt_of_le (dig_lt x) ?_)
  rw [Nat.pow_mul]
  exact Nat.pow_le_pow_right (by omega) h
theorem dig_double {R b y n : Nat} (hR : R < y) (hb : b ≤ 1) (h : (dig y).length ≤ n) : (dig (2 * R + b)).length ≤ n + 1 := by
  refine dig_length_le ?_
  have h2 := dig_lt y
  have h3 : 65536 ^ (dig y).length ≤ 65536 ^ n := Nat.pow_le_pow_right (by omega) h
  rw [Nat.pow_succ]
  omega
/-- A row of digits lies apart from a row of truth values. -/
theorem rowN_set {w : World} {base g n : Nat} {e : TypeId} {qq : List Bool} (h : w.ownsRow base e 1 (.slice (some ⟨g, 0, none⟩) n n) n (qq.map Value.bool)) {v : Value} {L : List Nat} (hr : RowN w v L) (j : Nat) (u : Value) : RowN (w.setCell ⟨g, j, none⟩ u) v L := by
  obtain ⟨a, cap, rfl, hl, hm, hc⟩ := hr
  refine ⟨a, cap, rfl, hl, hm, fun i hi => ?_⟩
  obtain ⟨b, off, rfl, hcell⟩ := hc i hi
  refine ⟨b, off, rfl, ?_⟩
  by_cases hbg : b = g
  · exfalso
    subst hbg
    rcases h.2 with ⟨h', _⟩ | ⟨g', cap', cur, h', _, hg, _, _, hs, ht⟩
    · simp at h'
    · simp only [Value.slice.injEq, Option.some.injEq, Addr.mk.injEq, and_true, true_and] at h'
      obtain ⟨rfl, rfl⟩ := h'
      simp only [World.cell?, hg] at hcell
      replace hcell : cur[off + i]? = some (.int .i64 ((L[i] : Nat) : Int)) := by simpa using hcell
      have h1 : off + i < cur.size := by
        rcases Nat.lt_or_ge (off + i) cur.size with h | h
        · exact h
        · rw [Array.getElem?_eq_none h] at hcell; simp at hcell
      have h2 : (cur.toList.take (n * 1))[off + i]? = (qq.map Value.bool)[off + i]? := by rw [ht]
      rw [List.getElem?_take, if_pos (by omega)] at h2
      have h3 : cur.toList[off + i]? = cur[off + i]? := by simp
      rw [h3, hcell, List.getElem?_map] at h2
      cases hq : qq[off + i]? with
      | none => rw [hq] at h2; simp at h2
      | some b' => rw [hq] at h2; simp at h2
  · exact (grown_setC' w g j u).cell hcell (by simpa using hbg)

set_option maxRecDepth 100000 in
set_option maxHeartbeats 2000000 in
theorem Divide_any (av bv : Value) (x y : Nat) (w : World) (ha : NatAt w av x) (hb : NatAt w bv y) (na : (dig x).length ≤ 100000) (nb : (dig y).length ≤ 100000) (hy : 0 < y) :
    Calls Tryd.prog 71 #[av, bv] w fun e w' => ∃ v1 v2, e = .returned (.tuple #[v1, v2]) ∧ NatAt w' v1 (x / y) ∧ NatAt w' v2 (x % y) ∧ Below w.heap.size w w' := by
  have HB := Lib.hid hb
  have NB := Lib.hid nb
  have hO := Lib.hid (Ones_any av x w ha (by omega))
  have hbl : (bitsN x).length ≤ 1600000 := bits_len na
  have HX := Lib.hid (VB_bitsN x)
  clear hb nb na ha
  obtain ⟨i1, hji, hy0, hy1, hy2⟩ := info_parts infoB
  generalize bitsN x = l at *
  go_enter Tryd.func71, Tryd.ntmps71
  go_wp2_with fail
  refine hO.out.mono ?_
  rintro e w1 ⟨lv, rfl, hbits, hbw⟩
  have HBI := Lib.hid hbits
  obtain ⟨la, lc, rfl, hll, hlm, -⟩ := hbits
  clear hO
  go_wp2_with (at_make; refine wpList_make_full _ rfl _ _ 46 rfl w1.heap.size 4 i1 (.bool false) 1 Tryd.underlying46 hji hy0 hy1 .i64 .i64 _ _ l.length rfl rfl rfl rfl (by rw [hy2]; omega) (by unfold maxLen; omega) (Nat.le_refl _) ?_; intro w0 hown0 hgrow0)
  have hownz : w0.ownsRow w1.heap.size 4 1 (.slice (some ⟨w1.heap.size, 0, none⟩) l.length l.length) l.length ((List.replicate l.length false).map Value.bool) := by
    refine own_cast hown0 rfl ?_
    rw [Nat.mul_one]
    show (madeCells #[.bool false] l.length).toList = _
    rw [toList_madeCells_one]
    simp
  have hb0 : Below w1.heap.size w1 w0 := below_of_grown hgrow0 (Nat.le_refl _) (fun k h => by cases h)
  clear hown0 hgrow0
  go_loopg [8, 9] l.length (fun q s8 s9 wr => ∃ (z : Int) (k R : Nat) (qq : List Bool), s9 = .int .i64 z ∧ z + 1 = (k : Int) ∧ k ≤ l.length ∧ k ≤ q ∧ NatAt wr s8 R ∧ R < y ∧ wr.ownsRow w1.heap.size 4 1 (.slice (some ⟨w1.heap.size, 0, none⟩) l.length l.length) l.length (qq.map Value.bool) ∧ Hid (qq.length = l.length) ∧
    Hid (VB (l.drop k) = VB (qq.drop k) * y + R) ∧ Hid (∀ j (h : j < qq.length), j < k → qq[j] = false) ∧ Below w1.heap.size w1 wr)
  case atStart => exact ⟨_, l.length, 0, List.replicate l.length false, rfl, by omega, Nat.le_refl _, Nat.le_refl _, NatAt.nil _, hy, hownz, by unfold Hid; simp, by unfold Hid; rw [List.drop_of_length_le (Nat.le_refl _), List.drop_of_length_le (by simp)]; simp [VB], fun j h _ => by simp, hb0⟩
  case round =>
    clear hownz hb0
    obtain ⟨z, k, R, qq, rfl, hz, hk, hq, hN, hR, hown, hol, hV, hF, hb⟩ := hrel
    cases k with
    | zero =>
      obtain rfl : z = -1 := by omega
      have hend := divide_end (show x = VB qq * y + R by have := hV.out; rw [List.drop_zero, List.drop_zero, HX.out] at this; exact this) hR
      have hT := Binary_any (.slice (some ⟨w1.heap.size, 0, none⟩) l.length l.length) qq wr (bools_own (own_cast hown hol.out.symm rfl)) (by rw [hol.out]; omega)
      rw [hend.1] at hT
      have HT := Lib.hid hT
      have HN := Lib.hid (show NatAt wr _ (x % y) by rw [← hend.2]; exact hN)
      clear hT hend hN
      go_wp2_with fail
      refine HT.out.mono ?_
      rintro e w3 ⟨v', rfl, hN1, hb3⟩
      go_wp2
      refine bodyPost_ret (v := .tuple #[v', u8]) (by simp [results, Tryd.results71, go_sem]) rfl ?_
      exact ⟨_, _, rfl, hN1, HN.out.below hb3, ext_trans hbw (ext_trans hb hb3)⟩
    | succ j =>
      obtain rfl : z = (j : Int) := by omega
      have hA : j < l.length := by omega
      obtain ⟨a', c', he, _, _, hc⟩ := HBI.out.below hb
      simp only [Value.slice.injEq, true_and] at he
      obtain ⟨rfl, rfl⟩ := he
      obtain ⟨b1, o1, rfl, z1⟩ := hc j hA
      have hoj : j < qq.length := by rw [hol.out]; exact hA
      have hqj := hF.out j hoj (by omega)
      have HSS := Lib.hid (set_same hoj hqj)
      have HST := Lib.hid (fun (t : Bool) (R' : Nat) (h : R' + (if t then y else 0) = 2 * R + (l[j]).toNat) => divide_step (t := t) (R' := R') hA hol.out hV.out h)
      have hRl : (dig R).length ≤ 100000 := dig_len_of_le (Nat.le_of_lt hR) NB.out
      have hDb := Lib.hid (Double_any _ R l[j] wr hN (by omega))
      have HF2 := Lib.hid (fun i (h : i < (qq.set j true).length) (hi : i < j) => show (qq.set j true)[i] = false by rw [List.getElem_set_ne (by omega)]; exact hF.out i (by simpa using h) (by omega))
      have HF3 := Lib.hid (fun i (h : i < qq.length) (hi : i < j) => hF.out i h (by omega))
      have HOWN := Lib.hid hown
      have f0 := hown.frozenAt j
      have z2 := own_bool hown hol.out hoj
      rw [hqj] at z2
      have hbit : (l[j]).toNat ≤ 1 := by cases l[j] <;> simp
      clear hc hV hz hN hF hqj hown f0 z2
      generalize l[j] = bit at *
      go_wp2_with fail
      refine hDb.out.mono ?_
      rintro e w2 ⟨v2, rfl, hN2, hb2⟩
      have HN2 := Lib.hid hN2
      have hC := Lib.hid (Compare_any _ _ (2 * R + bit.toNat) y w2 hN2 (HB.out.below (ext_trans hbw (ext_trans hb hb2))))
      have HOWN2 := Lib.hid (own_below HOWN.out hb2)
      have hbb := ext_trans hb hb2
      clear hDb hN2 HOWN
      by_cases hge : y ≤ 2 * R + bit.toNat
      · have hcm : cmpN (2 * R + bit.toNat) y ≥ 0 := by unfold cmpN; rw [if_neg (by omega)]; split <;> omega
        have hR2 : 2 * R + bit.toNat - y < y := by omega
        have hCm := Lib.hid (fun W (h : Below w2.heap.size w2 W) => Minus_any _ _ (2 * R + bit.toNat) y W (HN2.out.below h) (HB.out.below (ext_trans hbw (ext_trans hbb h))) hge (Nat.le_trans (dig_double hR hbit NB.out) (by omega)))
        have HV2 := Lib.hid (HST.out true (2 * R + bit.toNat - y) (by simp; omega))
        clear HST hge
        generalize cmpN (2 * R + bit.toNat) y = cm at *
        go_wp2_with fail
        refine hC.out.mono ?_
        rintro e w3 ⟨rfl, hb3⟩
        go_wp2_with fail
        refine (hCm.out w3 hb3).mono ?_
        rintro e w4 ⟨v4, rfl, hN4, hb4⟩
        have hown4 := own_below HOWN2.out (ext_trans hb3 hb4)
        have hbb4 := ext_trans hbb (ext_trans hb3 hb4)
        have f0 := hown4.frozenAt j
        have z2 := own_bool hown4 hol.out hoj
        have hset := hown4.stored j (.bool true)
        have HSET := Lib.hid (own_cast hset.1 rfl (show (qq.map Value.bool).set j (.bool true) = (qq.set j true).map Value.bool by rw [List.map_set]))
        have hN5 : NatAt (w4.setCell ⟨w1.heap.size, j, none⟩ (.bool true)) v4 (2 * R + bit.toNat - y) := rowN_set hown4 hN4 j _
        have HN5 := Lib.hid hN5
        have HOL := Lib.hid (show (qq.set j true).length = l.length by simp [hol.out])
        have hbS := hbb4.setCell (p := ⟨w1.heap.size, j, none⟩) (Nat.le_refl _) (.bool true)
        clear hset hown4 hN4 hN5 hbb4 hC hCm hbb
        go_wp2
        go_roundg j
        case measure => omega
        case rel => exact ⟨_, j, _, qq.set j true, rfl, by omega, by omega, Nat.le_refl _, HN5.out, hR2, HSET.out, HOL, HV2, HF2, hbS⟩
      · have hcm : ¬ (cmpN (2 * R + bit.toNat) y ≥ 0) := by unfold cmpN; rw [if_pos (by omega)]; omega
        have hR2 : 2 * R + bit.toNat < y := by omega
        have HV2 := Lib.hid (show VB (l.drop j) = VB (qq.drop j) * y + (2 * R + bit.toNat) by
          have := HST.out false (2 * R + bit.toNat) (by simp)
          rw [HSS.out] at this; exact this)
        clear HST hge
        generalize cmpN (2 * R + bit.toNat) y = cm at *
        go_wp2_with fail
        refine hC.out.mono ?_
        rintro e w3 ⟨rfl, hb3⟩
        have hN3 := HN2.out.below hb3
        have hown3 := own_below HOWN2.out hb3
        have hbb3 := ext_trans hbb hb3
        clear hC hbb
        go_wp2
        go_roundg j
        case measure => omega
        case rel => exact ⟨_, j, _, qq, rfl, by omega, by omega, Nat.le_refl _, hN3, hR2, hown3, hol, HV2, HF3, hbb3⟩
end Go.Proofs.YtpmadgmjkljbgaaDoor

/- Walk: Times (brindlewoodref3). -/
namespace Go.Proofs.YtpmadgmjkljbgaaDoor
open Go.RowKit

set_option maxRecDepth 100000 in
set_option maxHeartbeats 2000000 in
theorem Times_any (av bv : Value) (x y : Nat) (w : World) (ha : NatAt w av x) (hb : NatAt w bv y) (na : (dig x).length ≤ 100000) (nb : (dig y).length ≤ 100000) :
    Calls Tryd.prog 49 #[av, bv] w fun e w' => ∃ v', e = .returned v' ∧ NatAt w' v' (x * y) ∧ Below w.heap.size w w' := by
  have DA := Lib.hid (dig_Dg x)
  have DB := Lib.hid (dig_Dg y)
  have HX := Lib.hid (V_dig x)
  have HY := Lib.hid (V_dig y)
  unfold NatAt at ha hb
  generalize dig x = la at *
  generalize dig y = lb at *
  have HA := Lib.hid ha
  have HB := Lib.hid hb
  obtain ⟨aa, ac, rfl, hal, ham, -⟩ := ha
  obtain ⟨ba, bc, rfl, hbl, hbm, -⟩ := hb
  obtain ⟨i0, hii, hz0, hz1, hz2⟩ := info_parts infoI
  obtain ⟨N, hN⟩ : ∃ N, N = la.length + lb.length + 1 := ⟨_, rfl⟩
  have HN := Lib.hid hN
  have eN : ((la.length : Int) + (lb.length : Int) + 1) = (N : Int) := by omega
  have hNb : N ≤ 200001 := by omega
  clear hN
  go_enter Tryd.func49, Tryd.ntmps49
  go_wp2_with (at_make; refine wpList_make_full _ rfl _ _ 39 rfl w.heap.size 3 i0 (.int .i64 0) 1 Tryd.underlying39 hii hz0 hz1 .i64 .i64 _ _ N rfl rfl (by first | exact eN | rfl | omega) (by first | exact eN | rfl | omega) (by rw [hz2]; omega) (by unfold maxLen; omega) (Nat.le_refl _) ?_; intro w0 hown0 hgrow0)
  have hownz : w0.ownsRow w.heap.size 3 1 (.slice (some ⟨w.heap.size, 0, none⟩) N N) N ((List.replicate N 0).map cellN) := by
    refine own_cast hown0 rfl ?_
    rw [Nat.mul_one]
    show (madeCells #[.int .i64 0] N).toList = _
    rw [toList_madeCells_one]
    simp [cellN]
  have hb0 : Below w.heap.size w w0 := below_of_grown hgrow0 (Nat.le_refl _) (fun k h => by cases h)
  clear hown0 hgrow0 eN
  go_loopg [6] la.length (fun q s6 wr => ∃ (i : Nat) (out : List Nat), s6 = .int .i64 i ∧ i ≤ la.length ∧ la.length - i ≤ q ∧ wr.ownsRow w.heap.size 3 1 (.slice (some ⟨w.heap.size, 0, none⟩) N N) N (out.map cellN) ∧ Hid (out.length = N) ∧ Hid (V out = V (la.take i) * V lb) ∧ Hid (Dg out) ∧ Below w.heap.size w wr)
  case atStart => exact ⟨0, List.replicate N 0, rfl, by omega, by omega, hownz, by unfold Hid; simp, by unfold Hid; rw [V_zeros]; simp [V_nil], Dg_zeros _, hb0⟩
  case round =>
    clear hownz hb0
    obtain ⟨i, out, rfl, hi, hq, hown, hol, hV, hD, hb⟩ := hrel
    by_cases hA : i < la.length
    · have i1 : ((i : Int) < (la.length : Int)) := by omega
      have hp := DA.out.at hA
      have HROW := Lib.hid (times_row (y := V lb) hA)
      have HIN := Lib.hid (fun (o : List Nat) (k c : Nat) (hc : 0 < c) (h : V o + c * 65536 ^ (i + k) = V (la.take i) * V lb + la[i] * 65536 ^ i * V lb) => times_in DA.out DB.out hA hc h)
      have HST := Lib.hid (fun (o : List Nat) (k c x : Nat) (h : V o + c * 65536 ^ (i + k) = V (la.take i) * V lb + la[i] * 65536 ^ i * V (lb.take k)) (hj : i + k < o.length) (hx : x = o[i + k] + c + la[i] * (lb.getD k 0)) => times_step h hj hx)
      have HOWN := Lib.hid hown
      have HPI := Lib.hid (show ∃ b off, aa = some ⟨b, off, none⟩ ∧ w.cell? ⟨b, off + i, none⟩ = some (.int .i64 ((la[i] : Nat) : Int)) by
        obtain ⟨a', c', he, _, _, hc⟩ := HA.out
        simp only [Value.slice.injEq, true_and] at he
        obtain ⟨rfl, rfl⟩ := he
        exact hc i hA)
      clear hown
      generalize la[i] = p at *
      go_wp2
      go_loopg [7, 8] (lb.length + 2) (fun q s7 s8 wr => ∃ (k c : Nat) (o : List Nat), s8 = .int .i64 k ∧ s7 = .int .i64 c ∧ c < 65536 ∧ k ≤ lb.length + 1 ∧ lb.length + 2 - k ≤ q ∧ wr.ownsRow w.heap.size 3 1 (.slice (some ⟨w.heap.size, 0, none⟩) N N) N (o.map cellN) ∧ Hid (o.length = N) ∧
        Hid (V o + c * 65536 ^ (i + k) = V (la.take i) * V lb + p * 65536 ^ i * V (lb.take k)) ∧ Hid (Dg o) ∧ Below w.heap.size w wr)
      case atStart => exact ⟨0, 0, out, rfl, rfl, by omega, by omega, by omega, HOWN.out, hol, by unfold Hid; simp [V_nil, hV.out], hD, hb⟩
      case round =>
        clear HOWN hb hol hV hD
        obtain ⟨k, c, o, rfl, rfl, hc, hk, hq2, hown, hol, hV, hD, hb⟩ := hrel
        by_cases hB : k < lb.length
        · have i2 : ((k : Int) < (lb.length : Int)) := by omega
          have hj : i + k < o.length := by rw [hol.out, HN.out]; omega
          have i3 : ((i : Int) + (k : Int) < (N : Int)) := by have := HN.out; omega
          obtain ⟨a', c', he, _, _, hcc⟩ := HB.out.below hb
          simp only [Value.slice.injEq, true_and] at he
          obtain ⟨rfl, rfl⟩ := he
          obtain ⟨b2, o2, rfl, z2⟩ := hcc k hB
          obtain ⟨b1, o1, rfl, z1⟩ := HPI.out
          replace z1 : wr.cell? ⟨b1, o1 + i, none⟩ = some (.int .i64 ((p : Nat) : Int)) := by rw [hb.cell (World.block_lt_of_cell? _ _ z1)]; exact z1
          have hr := DB.out.at hB
          have HR := Lib.hid (getD_lt hB)
          have z3 := own_cellN hown hol.out hj
          have f3 := hown.frozenAt (i + k)
          have ho := hD.out.at hj
          have HS1 := Lib.hid (HST.out o k c _ hV.out hj rfl)
          clear hcc hV
          rw [HR.out] at HS1
          generalize lb[k] = r at *
          generalize o[i + k] = u at *
          have hm1 : p * r ≤ 65535 * 65535 := Nat.mul_le_mul (by omega) (by omega)
          have e1 : (p : Int) * (r : Int) = ((p * r : Nat) : Int) := by rw [Int.natCast_mul]
          have m1 : (p : Int) * (r : Int) ≤ 4294836225 := by rw [e1]; omega
          have m0 : 0 ≤ (p : Int) * (r : Int) := by rw [e1]; omega
          have hx : (u : Int) + (c : Int) + (p : Int) * (r : Int) = ((u + c + p * r : Nat) : Int) := by rw [e1]; omega
          have hc2 : (u + c + p * r) / 65536 < 65536 := by omega
          have T1 : ((u : Int) + (c : Int) + (p : Int) * (r : Int)) % 65536 = (((u + c + p * r) % 65536 : Nat) : Int) := by rw [hx]; rfl
          have T2 := Lib.hid (show ((u : Int) + (c : Int) + (p : Int) * (r : Int)) / 65536 = (((u + c + p * r) / 65536 : Nat) : Int) by rw [hx]; rfl)
          have HD2 := Lib.hid (hD.out.set (i + k) (d := (u + c + p * r) % 65536) (Nat.mod_lt _ (by omega)))
          have hset := (own_drew hown).stored (i + k) (.int .i64 (((u : Int) + (c : Int) + (p : Int) * (r : Int)) % 65536))
          have HSET := Lib.hid (own_cast hset.1 rfl (show (o.map cellN).set (i + k) (.int .i64 (((u : Int) + (c : Int) + (p : Int) * (r : Int)) % 65536)) = (o.set (i + k) ((u + c + p * r) % 65536)).map cellN by rw [List.map_set, T1]; rfl))
          have HOL := Lib.hid (show (o.set (i + k) ((u + c + p * r) % 65536)).length = N by simp [hol.out])
          have hbS := hb.drew.setCell (p := ⟨w.heap.size, i + k, none⟩) (Nat.le_refl _) (.int .i64 (((u : Int) + (c : Int) + (p : Int) * (r : Int)) % 65536))
          clear hset T1 hx e1 hm1 hown
          go_wp2
          go_region
          go_wp2
          go_roundg (lb.length + 2 - (k + 1))
          case measure => omega
          case rel => exact ⟨k + 1, (u + c + p * r) / 65536, _, by go_num, by rw [← T2.out], hc2, by omega, Nat.le_refl _, HSET.out, HOL, HS1, HD2, hbS⟩
        · have i2 : ¬ ((k : Int) < (lb.length : Int)) := by omega
          have HVT := Lib.hid (show V o + c * 65536 ^ (i + k) = V (la.take i) * V lb + p * 65536 ^ i * V lb by have := hV.out; rw [List.take_of_length_le (l := lb) (by omega)] at this; exact this)
          by_cases hc0 : c = 0
          · subst hc0
            have HV2 := Lib.hid (show V o = V (la.take (i + 1)) * V lb by have := HVT.out; rw [HROW.out] at this; omega)
            clear HVT hV HIN HST
            go_wp2
            go_roundg (la.length - (i + 1))
            case measure => omega
            case rel => exact ⟨i + 1, o, by go_num, by omega, Nat.le_refl _, hown, hol, HV2, hD, hb⟩
          · have i4 : ((c : Int) > 0) := by omega
            have hkl := HIN.out o k c (by omega) HVT.out
            have hj : i + k < o.length := by rw [hol.out, HN.out]; omega
            have i3 : ((i : Int) + (k : Int) < (N : Int)) := by have := HN.out; omega
            have HR := Lib.hid (getD_ge (l := lb) (i := k) (by omega))
            have z3 := own_cellN hown hol.out hj
            have f3 := hown.frozenAt (i + k)
            have ho := hD.out.at hj
            have HS1 := Lib.hid (HST.out o k c _ hV.out hj rfl)
            clear hV hc0 HVT
            rw [HR.out, Nat.mul_zero, Nat.add_zero] at HS1
            generalize o[i + k] = u at *
            have hx : (u : Int) + (c : Int) = ((u + c : Nat) : Int) := by omega
            have hc2 : (u + c) / 65536 < 65536 := by omega
            have T1 : ((u : Int) + (c : Int)) % 65536 = (((u + c) % 65536 : Nat) : Int) := by rw [hx]; rfl
            have T2 := Lib.hid (show ((u : Int) + (c : Int)) / 65536 = (((u + c) / 65536 : Nat) : Int) by rw [hx]; rfl)
            have HD2 := Lib.hid (hD.out.set (i + k) (d := (u + c) % 65536) (Nat.mod_lt _ (by omega)))
            have hset := hown.stored (i + k) (.int .i64 (((u : Int) + (c : Int)) % 65536))
            have HSET := Lib.hid (own_cast hset.1 rfl (show (o.map cellN).set (i + k) (.int .i64 (((u : Int) + (c : Int)) % 65536)) = (o.set (i + k) ((u + c) % 65536)).map cellN by rw [List.map_set, T1]; rfl))
            have HOL := Lib.hid (show (o.set (i + k) ((u + c) % 65536)).length = N by simp [hol.out])
            have hbS := hb.setCell (p := ⟨w.heap.size, i + k, none⟩) (Nat.le_refl _) (.int .i64 (((u : Int) + (c : Int)) % 65536))
            clear hset T1 hx hown
            go_wp2
            go_roundg (lb.length + 2 - (k + 1))
            case measure => omega
            case rel => exact ⟨k + 1, (u + c) / 65536, _, by go_num, by rw [← T2.out], hc2, by omega, Nat.le_refl _, HSET.out, HOL, HS1, HD2, hbS⟩
    · have i1 : ¬ ((i : Int) < (la.length : Int)) := by omega
      have hT := trim_any (.slice (some ⟨w.heap.size, 0, none⟩) N N) out wr (rowN_own (own_cast hown hol.out.symm rfl)) hD.out
      rw [hV.out, List.take_of_length_le (by omega), HX.out, HY.out] at hT
      have HT := Lib.hid hT
      clear hT hV
      go_wp2_with (go_at_call 66; refine HT.out.mono ?_; rintro e w3 ⟨v', rfl, hN', rfl⟩)
      go_ret
      exact ⟨_, rfl, hN', hb⟩
end Go.Proofs.YtpmadgmjkljbgaaDoor

/- Walks: Int.Times, Int.Minus, Int.Fits (brindlewoodref3). -/
namespace Go.Proofs.YtpmadgmjkljbgaaDoor
open Go.RowKit

/-- An integer of the document: its sign and its digits; 0 may have either sign. -/
def IntAt (w : World) (v : Value) (z : Int) : Prop := ∃ (b : Bool) (nv : Value) (n : Nat), v = .agg #[.bool b, nv] ∧ NatAt w nv n ∧ ZI b n = z
theorem IntAt.below {w w' : World} {v : Value} {z : Int} (h : IntAt w v z) (hb : Below w.heap.size w w') : IntAt w' v z := by
  obtain ⟨b, nv, n, rfl, hn, hz⟩ := h
  exact ⟨b, nv, n, rfl, hn.below hb, hz⟩
theorem NatAt.slice {w : World} {v : Value} {n : Nat} (h : NatAt w v n) : ∃ a c, v = .slice a (dig n).length c := by
  unfold NatAt at h
  obtain ⟨a, c, rfl, _⟩ := h
  exact ⟨a, c, rfl⟩
theorem box_cell {w : World} {N : Nat} {cs : Array Value} {t : TypeId} (h : w.heap[N]? = some (.cells cs t (0, 0))) (i : Nat) : w.cell? ⟨N, i, none⟩ = cs[i]? := by
  simp [World.cell?, h]
theorem box_frozen {w : World} {N : Nat} {cs : Array Value} {t : TypeId} (h : w.heap[N]? = some (.cells cs t (0, 0))) (i : Nat) : w.frozen? ⟨N, i, none⟩ = false := by
  simp [World.frozen?, h]
theorem box_lt {w : World} {N : Nat} {o : Obj} (h : w.heap[N]? = some o) : N < w.heap.size := by
  rcases Nat.lt_or_ge N w.heap.size with h' | h'
  · exact h'
  · rw [Array.getElem?_eq_none h'] at h; cases h
theorem alloc3 (w : World) (A B C : Obj) : Below w.heap.size w (((w.alloc A).alloc B).alloc C) ∧ (((w.alloc A).alloc B).alloc C).heap[w.heap.size]? = some A ∧ (((w.alloc A).alloc B).alloc C).heap[w.heap.size + 1]? = some B ∧ (((w.alloc A).alloc B).alloc C).heap[w.heap.size + 1 + 1]? = some C := by
  have hs1 : (w.alloc A).heap.size = w.heap.size + 1 := by simp
  have hs2 : ((w.alloc A).alloc B).heap.size = w.heap.size + 1 + 1 := by simp
  refine ⟨ext_trans (ext_trans (ext_alloc w A) (ext_alloc _ B)) (ext_alloc _ C), ?_, ?_, ?_⟩
  · exact box_alloc (box_alloc (heap_new w A) B) C
  · have := box_alloc (heap_new (w.alloc A) B) C
    rw [hs1] at this
    exact this
  · have := heap_new ((w.alloc A).alloc B) C
    rw [hs2] at this
    exact this
theorem alloc2 (w : World) (A B : Obj) : Below w.heap.size w ((w.alloc A).alloc B) ∧ ((w.alloc A).alloc B).heap[w.heap.size]? = some A ∧ ((w.alloc A).alloc B).heap[w.heap.size + 1]? = some B := by
  have hs1 : (w.alloc A).heap.size = w.heap.size + 1 := by simp
  refine ⟨ext_trans (ext_alloc w A) (ext_alloc _ B), ?_, ?_⟩
  · exact box_alloc (heap_new w A) B
  · have := heap_new (w.alloc A) B
    rw [hs1] at this
    exact this
/-- A row of digits lies apart from the box of an integer. -/
theorem rowN_box {w : World} {N : Nat} {b : Bool} {a : Option Addr} {n c : Nat} {t : TypeId} (h : w.heap[N]? = some (.cells #[.bool b, .slice a n c] t (0, 0))) {v : Value} {L : List Nat} (hr : RowN w v L) (j : Nat) (u : Value) : RowN (w.setCell ⟨N, j, none⟩ u) v L := by
  obtain ⟨a', cap, rfl, hl, hm, hc⟩ := hr
  refine ⟨a', cap, rfl, hl, hm, fun i hi => ?_⟩
  obtain ⟨b', off, rfl, hcell⟩ := hc i hi
  refine ⟨b', off, rfl, ?_⟩
  by_cases hbg : b' = N
  · exfalso
    subst hbg
    rw [box_cell h] at hcell
    match hx : off + i, hcell with
    | 0, hcell => simp at hcell
    | 1, hcell => simp at hcell
    | k + 2, hcell => simp at hcell
  · exact (grown_setC' w N j u).cell hcell (by simpa using hbg)
theorem intBox_set {w : World} {N : Nat} {b : Bool} {a : Option Addr} {n c : Nat} {t : TypeId} (h : w.heap[N]? = some (.cells #[.bool b, .slice a n c] t (0, 0))) (b' : Bool) (v : Value) :
    ((w.setCell ⟨N, 0, none⟩ (.bool b')).setCell ⟨N, 1, none⟩ v).heap[N]? = some (.cells #[.bool b', v] t (0, 0)) := by
  simp [World.setCell, Array.getElem?_modify, h]
theorem natAt_set {w : World} {N : Nat} {b : Bool} {a : Option Addr} {n c : Nat} {t : TypeId} (h : w.heap[N]? = some (.cells #[.bool b, .slice a n c] t (0, 0))) {v : Value} {x : Nat} (hr : NatAt w v x) (b' : Bool) (u : Value) : NatAt ((w.setCell ⟨N, 0, none⟩ (.bool b')).setCell ⟨N, 1, none⟩ u) v x := by
  refine rowN_box (N := N) (b := b') (a := a) (n := n) (c := c) (t := t) ?_ (rowN_box h hr 0 (.bool b')) 1 u
  simp [World.setCell, Array.getElem?_modify, h]

set_option maxRecDepth 100000 in
set_option maxHeartbeats 2000000 in
theorem IntTimes_any (xv yv : Value) (x y : Int) (w : World) (hx : IntAt w xv x) (hy : IntAt w yv y) (nx : (dig x.natAbs).length ≤ 100000) (ny : (dig y.natAbs).length ≤ 100000) :
    Calls Tryd.prog 35 #[xv, yv] w fun e w' => ∃ v', e = .returned v' ∧ IntAt w' v' (x * y) ∧ Below w.heap.size w w' := by
  obtain ⟨b1, v1, m, rfl, hm, rfl⟩ := hx
  obtain ⟨b2, v2, n, rfl, hn, rfl⟩ := hy
  rw [ZI_abs] at nx ny
  have HT := Lib.hid (fun W (h : Below w.heap.size w W) => Times_any _ _ m n W (hm.below h) (hn.below h) nx ny)
  have HZ := Lib.hid (ZI_times b1 b2 m n)
  obtain ⟨a1, c1, rfl⟩ := hm.slice
  obtain ⟨a2, c2, rfl⟩ := hn.slice
  generalize (dig m).length = lm at *
  generalize (dig n).length = ln at *
  have hal := alloc3 w (.cells #[.bool b1, .slice a1 lm c1] 41) (.cells #[.bool b2, .slice a2 ln c2] 41) (.cells #[.bool false, .slice none 0 0] 41)
  clear hm hn
  go_enter Tryd.func35, Tryd.ntmps35
  go_upto_region 1 with fail
  generalize (((w.alloc (.cells #[.bool b1, .slice a1 lm c1] 41)).alloc (.cells #[.bool b2, .slice a2 ln c2] 41)).alloc (.cells #[.bool false, .slice none 0 0] 41)) = w1 at *
  obtain ⟨hb1, h1, h2, h3⟩ := hal
  have d0 := box_cell h1 0
  have d1 := box_cell h1 1
  have e0 := box_cell h2 0
  have e1 := box_cell h2 1
  simp only [List.getElem?_toArray, List.getElem?_cons_zero, List.getElem?_cons_succ] at d0 d1 e0 e1
  go_wp2_with fail
  refine (HT.out w1 hb1).mono ?_
  rintro e w2 ⟨v', rfl, hN, hb2⟩
  have HN := Lib.hid hN
  obtain ⟨a3, c3, rfl⟩ := hN.slice
  have HL := Lib.hid (show (0 < (dig (m * n)).length) ↔ 0 < m * n by
    rw [List.length_pos_iff, Ne, dig_eq_nil]; omega)
  clear hN HT d0 d1 e0 e1
  generalize (dig (m * n)).length = l3 at *
  replace h1 := (hb2.block _ (box_lt h1)).trans h1
  replace h2 := (hb2.block _ (box_lt h2)).trans h2
  replace h3 := (hb2.block _ (box_lt h3)).trans h3
  have hb := ext_trans hb1 hb2
  clear hb1 hb2
  have d0 := box_cell h1 0
  have e0 := box_cell h2 0
  have g0 := box_cell h3 0
  have g1 := box_cell h3 1
  have f0 := box_frozen h3 0
  have f1 := box_frozen h3 1
  simp only [List.getElem?_toArray, List.getElem?_cons_zero, List.getElem?_cons_succ] at d0 e0 g0 g1
  have hle : w.heap.size ≤ w.heap.size + 1 + 1 := by omega
  obtain ⟨s, hs⟩ : ∃ s, s = ((b1 != b2) && decide (0 < m * n)) := ⟨_, rfl⟩
  have hfin : NatAt ((w2.setCell ⟨w.heap.size + 1 + 1, 0, none⟩ (.bool s)).setCell ⟨w.heap.size + 1 + 1, 1, none⟩ (.slice a3 l3 c3)) (.slice a3 l3 c3) (m * n) := natAt_set h3 HN.out s _
  have hset := intBox_set h3 s (.slice a3 l3 c3)
  have hbel := (hb.setCell (p := ⟨w.heap.size + 1 + 1, 0, none⟩) hle (.bool s)).setCell (p := ⟨w.heap.size + 1 + 1, 1, none⟩) hle (.slice a3 l3 c3)
  have HF := Lib.hid hfin
  have HS := Lib.hid hs
  have t0 := box_cell hset 0
  have t1 := box_cell hset 1
  simp only [List.getElem?_toArray, List.getElem?_cons_zero, List.getElem?_cons_succ] at t0 t1
  have HBL := Lib.hid hbel
  have HQ := Lib.hid (show ∀ s', s' = s → IntAt ((w2.setCell ⟨w.heap.size + 1 + 1, 0, none⟩ (.bool s)).setCell ⟨w.heap.size + 1 + 1, 1, none⟩ (.slice a3 l3 c3)) (.agg #[.bool s', .slice a3 l3 c3]) (ZI b1 m * ZI b2 n) by
    rintro s' rfl
    exact ⟨_, _, m * n, rfl, hfin, by rw [HS.out]; exact HZ.out⟩)
  clear hfin hbel hs
  cases b1 with
  | true =>
    cases b2 with
    | true =>
      obtain rfl : s = false := by rw [HS.out]; simp
      go_wp2
      refine bodyPost_ret (v := .agg #[.bool false, .slice a3 l3 c3]) (by simp [results, Tryd.results35, go_sem, t0, t1]) rfl ?_
      exact ⟨_, rfl, HQ.out _ rfl, HBL.out⟩
    | false =>
      obtain rfl : s = decide (0 < l3) := by
        rw [HS.out]
        have := HL.out
        by_cases h0 : 0 < m * n <;> simp [h0, this]
      go_wp2
      refine bodyPost_ret (v := .agg #[.bool (decide (0 < l3)), .slice a3 l3 c3]) (by simp [results, Tryd.results35, go_sem, t0, t1]) rfl ?_
      exact ⟨_, rfl, HQ.out _ rfl, HBL.out⟩
  | false =>
    cases b2 with
    | true =>
      obtain rfl : s = decide (0 < l3) := by
        rw [HS.out]
        have := HL.out
        by_cases h0 : 0 < m * n <;> simp [h0, this]
      go_wp2
      refine bodyPost_ret (v := .agg #[.bool (decide (0 < l3)), .slice a3 l3 c3]) (by simp [results, Tryd.results35, go_sem, t0, t1]) rfl ?_
      exact ⟨_, rfl, HQ.out _ rfl, HBL.out⟩
    | false =>
      obtain rfl : s = false := by rw [HS.out]; simp
      go_wp2
      refine bodyPost_ret (v := .agg #[.bool false, .slice a3 l3 c3]) (by simp [results, Tryd.results35, go_sem, t0, t1]) rfl ?_
      exact ⟨_, rfl, HQ.out _ rfl, HBL.out⟩
end Go.Proofs.YtpmadgmjkljbgaaDoor

/- Walks: Int.Minus, Limbs (brindlewoodref3). -/
namespace Go.Proofs.YtpmadgmjkljbgaaDoor
open Go.RowKit

set_option maxRecDepth 100000 in
set_option maxHeartbeats 2000000 in
theorem IntMinus_any (xv : Value) (x : Int) (w : World) (hx : IntAt w xv x) :
    Calls Tryd.prog 51 #[xv] w fun e w' => ∃ v', e = .returned v' ∧ IntAt w' v' (-x) ∧ Below w.heap.size w w' := by
  obtain ⟨b1, v1, m, rfl, hm, rfl⟩ := hx
  have HM := Lib.hid hm
  have HZ := Lib.hid (ZI_neg b1 m)
  obtain ⟨a3, c3, rfl⟩ := hm.slice
  have HL := Lib.hid (show (0 < (dig m).length) ↔ 0 < m by rw [List.length_pos_iff, Ne, dig_eq_nil]; omega)
  clear hm
  generalize (dig m).length = l3 at *
  have hal := alloc2 w (.cells #[.bool b1, .slice a3 l3 c3] 41) (.cells #[.bool false, .slice none 0 0] 41)
  go_enter Tryd.func51, Tryd.ntmps51
  go_upto_region 1 with fail
  generalize ((w.alloc (.cells #[.bool b1, .slice a3 l3 c3] 41)).alloc (.cells #[.bool false, .slice none 0 0] 41)) = w2 at *
  obtain ⟨hb, h1, h3⟩ := hal
  have d0 := box_cell h1 0
  have d1 := box_cell h1 1
  have g0 := box_cell h3 0
  have g1 := box_cell h3 1
  have f0 := box_frozen h3 0
  have f1 := box_frozen h3 1
  simp only [List.getElem?_toArray, List.getElem?_cons_zero, List.getElem?_cons_succ] at d0 d1 g0 g1
  have hle : w.heap.size ≤ w.heap.size + 1 := by omega
  have HN := Lib.hid (HM.out.below hb)
  obtain ⟨s, hs⟩ : ∃ s, s = ((!b1) && decide (0 < m)) := ⟨_, rfl⟩
  have hfin : NatAt ((w2.setCell ⟨w.heap.size + 1, 0, none⟩ (.bool s)).setCell ⟨w.heap.size + 1, 1, none⟩ (.slice a3 l3 c3)) (.slice a3 l3 c3) m := natAt_set h3 HN.out s _
  have hset := intBox_set h3 s (.slice a3 l3 c3)
  have HBL := Lib.hid ((hb.setCell (p := ⟨w.heap.size + 1, 0, none⟩) hle (.bool s)).setCell (p := ⟨w.heap.size + 1, 1, none⟩) hle (.slice a3 l3 c3))
  have HS := Lib.hid hs
  have t0 := box_cell hset 0
  have t1 := box_cell hset 1
  simp only [List.getElem?_toArray, List.getElem?_cons_zero, List.getElem?_cons_succ] at t0 t1
  have HQ := Lib.hid (show ∀ s', s' = s → IntAt ((w2.setCell ⟨w.heap.size + 1, 0, none⟩ (.bool s)).setCell ⟨w.heap.size + 1, 1, none⟩ (.slice a3 l3 c3)) (.agg #[.bool s', .slice a3 l3 c3]) (-ZI b1 m) by
    rintro s' rfl
    exact ⟨_, _, m, rfl, hfin, by rw [HS.out]; exact HZ.out⟩)
  clear hfin hs HM HN
  cases b1 with
  | true =>
    obtain rfl : s = false := by rw [HS.out]; simp
    go_wp2
    refine bodyPost_ret (v := .agg #[.bool false, .slice a3 l3 c3]) (by simp [results, Tryd.results51, go_sem, t0, t1]) rfl ?_
    exact ⟨_, rfl, HQ.out _ rfl, HBL.out⟩
  | false =>
    obtain rfl : s = decide (0 < l3) := by
      rw [HS.out]
      have := HL.out
      by_cases h0 : 0 < m <;> simp [h0, this]
    go_wp2
    refine bodyPost_ret (v := .agg #[.bool (decide (0 < l3)), .slice a3 l3 c3]) (by simp [results, Tryd.results51, go_sem, t0, t1]) rfl ?_
    exact ⟨_, rfl, HQ.out _ rfl, HBL.out⟩

/-- A row of limbs. -/
abbrev RowU (w : World) (v : Value) (l : List Nat) : Prop := RowOf (fun d : Nat => Value.int .u32 (d : Int)) w v l
def cellU (d : Nat) : Value := .int .u32 (d : Int)
theorem infoU : (Tryd.prog.info? 51).map (fun i => (i.zero, i.size, i.bytes)) = some (some (.int .u32 0), 1, 4) := by kernel_rfl
theorem rowU_own {w : World} {base : Nat} {e : TypeId} {v : Value} {l : List Nat} (h : w.ownsRow base e 1 v l.length (l.map cellU)) : RowU w v l := by
  have h' : w.ownsRow base e 1 v (l.map cellU).length (l.map cellU) := by simpa using h
  obtain ⟨a, cap, rfl, hl, hm, hc⟩ := Row_of_own h'
  refine ⟨a, cap, by simp, by simpa using hl, hm, fun i hi => ?_⟩
  obtain ⟨b, off, rfl, hcell⟩ := hc i (by simpa using hi)
  exact ⟨b, off, rfl, by simpa [cellU] using hcell⟩
theorem own_snocU {w : World} {base : Nat} {e : TypeId} {v : Value} {o : List Nat} {x : Nat} {n : Nat} {y : Int} (h : w.ownsRow base e 1 v n (o.map cellU ++ [.int .u32 y])) (hn : n = o.length + 1) (hy : y = (x : Int)) : w.ownsRow base e 1 v (o ++ [x]).length ((o ++ [x]).map cellU) :=
  own_cast h (by simp [hn]) (by simp [cellU, hy])

set_option maxRecDepth 100000 in
set_option maxHeartbeats 2000000 in
theorem Limbs_any (av : Value) (x : Nat) (w : World) (ha : NatAt w av x) (na : (dig x).length ≤ 1000000) :
    Calls Tryd.prog 70 #[av] w fun e w' => ∃ v', e = .returned v' ∧ RowU w' v' (lim x) ∧ Below w.heap.size w w' := by
  have DA := Lib.hid (dig_Dg x)
  have HE := Lib.hid (fun (o : List Nat) (h : VL o = V ((dig x).take (2 * o.length))) (hl : (dig x).length ≤ 2 * o.length) (hl2 : 2 * o.length < (dig x).length + 2) (hg : Lg o) => limbs_end h hl hl2 hg)
  unfold NatAt at ha
  generalize dig x = la at *
  have HA := Lib.hid ha
  obtain ⟨aa, ac, rfl, hal, ham, -⟩ := ha
  obtain ⟨i1, hji, hy0, hy1, hy2⟩ := info_parts infoU
  go_enter Tryd.func70, Tryd.ntmps70
  go_wp2
  go_loopg [3, 4] la.length (fun q s3 s4 wr => ∃ (j : Nat) (o : List Nat), s4 = .int .i64 ((2 * j : Nat) : Int) ∧ la.length - 2 * j ≤ q ∧ 2 * j ≤ la.length + 1 ∧ wr.ownsRow w.heap.size 51 1 s3 o.length (o.map cellU) ∧ Hid (o.length = j) ∧ Hid (VL o = V (la.take (2 * j))) ∧ Hid (Lg o) ∧ Below w.heap.size w wr)
  case atStart => exact ⟨0, [], rfl, by omega, by omega, World.ownsRow_nil _ _ _ _, rfl, rfl, Lg.nil, Below.refl _ _⟩
  case round =>
    obtain ⟨j, o, rfl, hq, hjl, hown, hol, hV, hD, hb⟩ := hrel
    by_cases hA : 2 * j < la.length
    · have i1' : (((2 * j : Nat) : Int) < (la.length : Int)) := by omega
      obtain ⟨a', c', he, _, _, hc⟩ := HA.out.below hb
      simp only [Value.slice.injEq, true_and] at he
      obtain ⟨rfl, rfl⟩ := he
      obtain ⟨b1, o1, rfl, z1⟩ := hc (2 * j) hA
      have hp := DA.out.at hA
      have HS := Lib.hid (limbs_step hV.out hol.out)
      have HP := Lib.hid (getD_lt hA)
      have hol2 : o.length ≤ la.length := by rw [hol.out]; omega
      have HSL := Lib.hid (show la.length - 2 * (j + 1) < la.length - 2 * j by omega)
      rw [HP.out] at HS
      by_cases hB : 2 * j + 1 < la.length
      · have i2 : (((2 * j : Nat) : Int) + 1 < (la.length : Int)) := by omega
        obtain ⟨b2, o2, e2, z2⟩ := hc (2 * j + 1) hB
        simp only [Option.some.injEq, Addr.mk.injEq, and_true] at e2
        obtain ⟨rfl, rfl⟩ := e2
        have hr := DA.out.at hB
        rw [getD_lt hB] at HS
        clear hc hV HP
        generalize la[2 * j + 1] = r at *
        generalize la[2 * j] = p at *
        have T1 := Lib.hid (show (p : Int) + (r : Int) * 65536 = ((p + r * 65536 : Nat) : Int) by omega)
        have HD2 := Lib.hid (hD.out.snoc (d := p + r * 65536) (by omega))
        generalize hI : 2 * j = I at *
        have HI := Lib.hid hI
        clear hI
        go_wp2_with (at_builtin; refine wpList_append_own _ rfl _ _ 22 rfl w.heap.size 51 i1 (.int .u32 0) 1 4 Tryd.underlying22 hji hy0 hy1 hy2 rfl (by decide) _ _ _ rfl (hown.alloc _) ⟨wr.heap.size, 0, none⟩ 1 1 [.int .u32 ((p : Int) + (r : Int) * 65536)] rfl rfl ?c1l1 ?c2l1 ?c3l1 ?c4l1 ?c5l1 ?_)
        try (case c1l1 => exact cell_one_new _ _ _)
        try (case c2l1 => simp [Value.oneCell'])
        case c3l1 => rw [maxLen_eq']; omega
        case c4l1 => omega
        case c5l1 => have := hb.size; simp; omega
        intro v' w2 hown2 hgr2 _
        have hb2 : Below w.heap.size w w2 := (hb.alloc hb.size _).grown hgr2 (by have := hb.size; simp; omega) (fun q hq => (hown.lt q hq).1)
        have hown3 := own_snocU (x := p + r * 65536) hown2 rfl T1.out
        clear hown hown2 hgr2
        go_wp2
        go_roundg (la.length - 2 * (j + 1))
        case measure => have := HSL.out; have := HI.out; omega
        case rel => exact ⟨j + 1, _, by rw [show 2 * (j + 1) = I + 2 by have := HI.out; omega]; go_num, Nat.le_refl _, by have := HI.out; omega, hown3, by unfold Hid; simp [hol.out], HS, HD2, hb2⟩
      · have i2 : ¬ (((2 * j : Nat) : Int) + 1 < (la.length : Int)) := by omega
        rw [getD_ge (l := la) (i := 2 * j + 1) (by omega), Nat.zero_mul, Nat.add_zero] at HS
        clear hc hV HP
        generalize la[2 * j] = p at *
        have HD2 := Lib.hid (hD.out.snoc (d := p) (by omega))
        generalize hI : 2 * j = I at *
        have HI := Lib.hid hI
        clear hI
        go_wp2_with (at_builtin; refine wpList_append_own _ rfl _ _ 22 rfl w.heap.size 51 i1 (.int .u32 0) 1 4 Tryd.underlying22 hji hy0 hy1 hy2 rfl (by decide) _ _ _ rfl (hown.alloc _) ⟨wr.heap.size, 0, none⟩ 1 1 [.int .u32 ((p : Nat) : Int)] rfl rfl ?c1l2 ?c2l2 ?c3l2 ?c4l2 ?c5l2 ?_)
        try (case c1l2 => exact cell_one_new _ _ _)
        try (case c2l2 => simp [Value.oneCell'])
        case c3l2 => rw [maxLen_eq']; omega
        case c4l2 => omega
        case c5l2 => have := hb.size; simp; omega
        intro v' w2 hown2 hgr2 _
        have hb2 : Below w.heap.size w w2 := (hb.alloc hb.size _).grown hgr2 (by have := hb.size; simp; omega) (fun q hq => (hown.lt q hq).1)
        have hown3 := own_snocU (x := p) hown2 rfl rfl
        clear hown hown2 hgr2
        go_wp2
        go_roundg (la.length - 2 * (j + 1))
        case measure => have := HSL.out; have := HI.out; omega
        case rel => exact ⟨j + 1, _, by rw [show 2 * (j + 1) = I + 2 by have := HI.out; omega]; go_num, Nat.le_refl _, by have := HI.out; omega, hown3, by unfold Hid; simp [hol.out], HS, HD2, hb2⟩
    · have i1' : ¬ (((2 * j : Nat) : Int) < (la.length : Int)) := by omega
      have hend := HE.out o (by rw [hol.out]; exact hV.out) (by rw [hol.out]; omega) (by rw [hol.out]; omega) hD.out
      have HF := Lib.hid (show RowU wr u3 (lim x) by rw [← hend]; exact rowU_own hown)
      clear hend hV hown
      go_wp2
      go_ret
      exact ⟨_, rfl, HF.out, hb⟩
end Go.Proofs.YtpmadgmjkljbgaaDoor
