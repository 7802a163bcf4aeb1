/- Part 12 of the proof. -/
import Derived.Test.YtonogeiopicibaaGreatDoorM11
import Derived.OrdersHeld

/- Walks: Minus, Compare (brindlewoodref3). -/
namespace Go.Proofs.YtonogeiopicibaaGreatDoor
open Go.RowKit

theorem Plus_any (av bv : Value) (x y : Nat) (w : World) (ha : NatAt w av x) (hb : NatAt w bv y) (na : (dig x).length ≤ 1000000) (nb : (dig y).length ≤ 1000000) :
    Calls Tryz.prog 122 #[av, bv] w fun e w' => ∃ v', e = .returned v' ∧ NatAt w' v' (x + y) ∧ Below w.heap.size w w' := by
  have h := PlusL_any av bv (dig x) (dig y) w ha hb (dig_Dg x) (dig_Dg y) na nb
  rw [V_dig, V_dig] at h
  exact h

set_option maxRecDepth 100000 in
set_option maxHeartbeats 2000000 in
theorem Minus_any (av bv : Value) (x y : Nat) (w : World) (ha : NatAt w av x) (hb : NatAt w bv y) (hle : y ≤ x) (na : (dig x).length ≤ 1000000) :
    Calls Tryz.prog 121 #[av, bv] w fun e w' => ∃ v', e = .returned v' ∧ NatAt w' v' (x - y) ∧ Below w.heap.size w w' := by
  have hlen := dig_len_mono hle
  have DA := Lib.hid (dig_Dg x)
  have DB := Lib.hid (dig_Dg y)
  have HX := Lib.hid (V_dig x)
  have HY := Lib.hid (V_dig y)
  unfold NatAt at ha hb
  generalize dig x = la at *
  generalize dig y = lb at *
  have HA := Lib.hid ha
  have HB := Lib.hid hb
  obtain ⟨aa, ac, rfl, -⟩ := ha
  obtain ⟨ba, bc, rfl, -⟩ := hb
  obtain ⟨i0, hii, hz0, hz1, hz2⟩ := info_parts infoI
  go_enter Tryz.func121, Tryz.ntmps121
  go_wp2
  go_loopg [5, 6, 7] la.length (fun q s5 s6 s7 wr => ∃ (k c : Nat) (o : List Nat), s7 = .int .i64 k ∧ s6 = .int .i64 c ∧ c ≤ 1 ∧ k ≤ la.length ∧ la.length - k ≤ q ∧ wr.ownsRow w.heap.size 3 1 s5 o.length (o.map cellN) ∧ o.length = k ∧
    Hid (V o + V (lb.take k) = V (la.take k) + c * 65536 ^ k) ∧ Hid (Dg o) ∧ Below w.heap.size w wr)
  case atStart => exact ⟨0, 0, [], rfl, rfl, by omega, by omega, by omega, World.ownsRow_nil _ _ _ _, rfl, rfl, Dg.nil, Below.refl _ _⟩
  case round =>
    obtain ⟨k, c, o, rfl, rfl, hc1, hkl, hq, hown, hol, hV, hD, hb⟩ := hrel
    have HOL := Lib.hid hol
    by_cases hA : k < la.length
    · have i1 : ((k : Int) < (la.length : Int)) := by omega
      obtain ⟨a', c', he, _, _, hc⟩ := HA.out.below hb
      simp only [Value.slice.injEq, true_and] at he
      obtain ⟨rfl, rfl⟩ := he
      obtain ⟨b1, o1, rfl, z1⟩ := hc k hA
      have hp := DA.out.at hA
      have HMS := Lib.hid (fun (x c' : Nat) (hx : x + lb.getD k 0 + c = la[k] + 65536 * c') => minus_step (x := x) (c' := c') hV.out hol hA hx)
      clear hc hV
      generalize la[k] = p at *
      by_cases hB : k < lb.length
      · have i2 : ((k : Int) < (lb.length : Int)) := by omega
        obtain ⟨a', c', he, _, _, hc⟩ := HB.out.below hb
        simp only [Value.slice.injEq, true_and] at he
        obtain ⟨rfl, rfl⟩ := he
        obtain ⟨b2, o2, rfl, z2⟩ := hc k hB
        have hr := DB.out.at hB
        have HR := Lib.hid (getD_lt hB)
        clear hc
        generalize lb[k] = r at *
        by_cases hs : (p : Int) - (c : Int) - (r : Int) < 0
        · have i3 := hs
          have T1 := Lib.hid (show ((((p : Int) - (c : Int)) - (r : Int)) + 65536) = ((p + 65536 - c - r : Nat) : Int) by omega)
          have HS := Lib.hid (HMS.out (p + 65536 - c - r) 1 (by rw [HR.out]; omega))
          have HD2 := Lib.hid (hD.out.snoc (d := p + 65536 - c - r) (by omega))
          have hol2 : o.length ≤ la.length := by omega
          clear hs hol HMS
          go_wp2_with (at_builtin; refine wpList_append_own _ rfl _ _ 127 rfl w.heap.size 3 i0 (.int .i64 0) 1 8 Tryz.underlying127 hii hz0 hz1 hz2 rfl (by decide) _ _ _ rfl (hown.alloc _) ⟨wr.heap.size, 0, none⟩ 1 1 [.int .i64 ((((p : Int) - (c : Int)) - (r : Int)) + 65536)] rfl rfl ?c1m11 ?c2m11 ?c3m11 ?c4m11 ?c5m11 ?_)
          try (case c1m11 => exact cell_one_new _ _ _)
          try (case c2m11 => simp [Value.oneCell'])
          case c3m11 => rw [maxLen_eq']; omega
          case c4m11 => omega
          case c5m11 => have := hb.size; simp; omega
          intro v' w2 hown2 hgr2 _
          have hb2 : Below w.heap.size w w2 := (hb.alloc hb.size _).grown hgr2 (by have := hb.size; simp; omega) (fun q hq => (hown.lt q hq).1)
          have hown3 := own_snoc (x := p + 65536 - c - r) hown2 rfl T1.out
          clear hown hown2 hgr2
          go_wp2
          go_roundg (la.length - (k + 1))
          case measure => omega
          case rel => exact ⟨k + 1, 1, _, by go_num, rfl, by omega, by omega, Nat.le_refl _, hown3, by simp [HOL.out], HS, HD2, hb2⟩
        · have i3 : ¬ ((((p : Int) - (c : Int)) - (r : Int)) < 0) := hs
          have T1 := Lib.hid (show (((p : Int) - (c : Int)) - (r : Int)) = ((p - c - r : Nat) : Int) by omega)
          have HS := Lib.hid (HMS.out (p - c - r) 0 (by rw [HR.out]; omega))
          have HD2 := Lib.hid (hD.out.snoc (d := p - c - r) (by omega))
          have hol2 : o.length ≤ la.length := by omega
          clear hs hol HMS
          go_wp2_with (at_builtin; refine wpList_append_own _ rfl _ _ 127 rfl w.heap.size 3 i0 (.int .i64 0) 1 8 Tryz.underlying127 hii hz0 hz1 hz2 rfl (by decide) _ _ _ rfl (hown.alloc _) ⟨wr.heap.size, 0, none⟩ 1 1 [.int .i64 (((p : Int) - (c : Int)) - (r : Int))] rfl rfl ?c1m10 ?c2m10 ?c3m10 ?c4m10 ?c5m10 ?_)
          try (case c1m10 => exact cell_one_new _ _ _)
          try (case c2m10 => simp [Value.oneCell'])
          case c3m10 => rw [maxLen_eq']; omega
          case c4m10 => omega
          case c5m10 => have := hb.size; simp; omega
          intro v' w2 hown2 hgr2 _
          have hb2 : Below w.heap.size w w2 := (hb.alloc hb.size _).grown hgr2 (by have := hb.size; simp; omega) (fun q hq => (hown.lt q hq).1)
          have hown3 := own_snoc (x := p - c - r) hown2 rfl T1.out
          clear hown hown2 hgr2
          go_wp2
          go_roundg (la.length - (k + 1))
          case measure => omega
          case rel => exact ⟨k + 1, 0, _, by go_num, rfl, by omega, by omega, Nat.le_refl _, hown3, by simp [HOL.out], HS, HD2, hb2⟩
      · have i2 : ¬ ((k : Int) < (lb.length : Int)) := by omega
        have HR := Lib.hid (getD_ge (l := lb) (i := k) (by omega))
        by_cases hs : (p : Int) - (c : Int) < 0
        · have i3 := hs
          have T1 := Lib.hid (show (((p : Int) - (c : Int)) + 65536) = ((p + 65536 - c : Nat) : Int) by omega)
          have HS := Lib.hid (HMS.out (p + 65536 - c) 1 (by rw [HR.out]; omega))
          have HD2 := Lib.hid (hD.out.snoc (d := p + 65536 - c) (by omega))
          have hol2 : o.length ≤ la.length := by omega
          clear hs hol HMS
          go_wp2_with (at_builtin; refine wpList_append_own _ rfl _ _ 127 rfl w.heap.size 3 i0 (.int .i64 0) 1 8 Tryz.underlying127 hii hz0 hz1 hz2 rfl (by decide) _ _ _ rfl (hown.alloc _) ⟨wr.heap.size, 0, none⟩ 1 1 [.int .i64 (((p : Int) - (c : Int)) + 65536)] rfl rfl ?c1m01 ?c2m01 ?c3m01 ?c4m01 ?c5m01 ?_)
          try (case c1m01 => exact cell_one_new _ _ _)
          try (case c2m01 => simp [Value.oneCell'])
          case c3m01 => rw [maxLen_eq']; omega
          case c4m01 => omega
          case c5m01 => have := hb.size; simp; omega
          intro v' w2 hown2 hgr2 _
          have hb2 : Below w.heap.size w w2 := (hb.alloc hb.size _).grown hgr2 (by have := hb.size; simp; omega) (fun q hq => (hown.lt q hq).1)
          have hown3 := own_snoc (x := p + 65536 - c) hown2 rfl T1.out
          clear hown hown2 hgr2
          go_wp2
          go_roundg (la.length - (k + 1))
          case measure => omega
          case rel => exact ⟨k + 1, 1, _, by go_num, rfl, by omega, by omega, Nat.le_refl _, hown3, by simp [HOL.out], HS, HD2, hb2⟩
        · have i3 : ¬ (((p : Int) - (c : Int)) < 0) := hs
          have T1 := Lib.hid (show ((p : Int) - (c : Int)) = ((p - c : Nat) : Int) by omega)
          have HS := Lib.hid (HMS.out (p - c) 0 (by rw [HR.out]; omega))
          have HD2 := Lib.hid (hD.out.snoc (d := p - c) (by omega))
          have hol2 : o.length ≤ la.length := by omega
          clear hs hol HMS
          go_wp2_with (at_builtin; refine wpList_append_own _ rfl _ _ 127 rfl w.heap.size 3 i0 (.int .i64 0) 1 8 Tryz.underlying127 hii hz0 hz1 hz2 rfl (by decide) _ _ _ rfl (hown.alloc _) ⟨wr.heap.size, 0, none⟩ 1 1 [.int .i64 ((p : Int) - (c : Int))] rfl rfl ?c1m00 ?c2m00 ?c3m00 ?c4m00 ?c5m00 ?_)
          try (case c1m00 => exact cell_one_new _ _ _)
          try (case c2m00 => simp [Value.oneCell'])
          case c3m00 => rw [maxLen_eq']; omega
          case c4m00 => omega
          case c5m00 => have := hb.size; simp; omega
          intro v' w2 hown2 hgr2 _
          have hb2 : Below w.heap.size w w2 := (hb.alloc hb.size _).grown hgr2 (by have := hb.size; simp; omega) (fun q hq => (hown.lt q hq).1)
          have hown3 := own_snoc (x := p - c) hown2 rfl T1.out
          clear hown hown2 hgr2
          go_wp2
          go_roundg (la.length - (k + 1))
          case measure => omega
          case rel => exact ⟨k + 1, 0, _, by go_num, rfl, by omega, by omega, Nat.le_refl _, hown3, by simp [HOL.out], HS, HD2, hb2⟩
    · have hk' : k = la.length := by omega
      have hV2 := hV.out
      rw [hk'] at hV2
      have hdone := minus_done hD.out (hol.trans hk') hV2 (by rw [HX.out, HY.out]; exact hle) hlen
      rw [HX.out, HY.out] at hdone
      have hT := trim_any u5 o wr (rowN_own hown) hD.out
      rw [hdone] at hT
      have HT := Lib.hid hT
      have i1 : ¬ ((k : Int) < (la.length : Int)) := by omega
      clear hT hdone hV hV2 hk'
      go_wp2_with (go_at_call 124; refine HT.out.mono ?_; rintro e w3 ⟨v', rfl, hN, rfl⟩)
      go_ret
      exact ⟨_, rfl, hN, hb⟩

set_option maxRecDepth 100000 in
set_option maxHeartbeats 1000000 in
theorem Compare_any (av bv : Value) (x y : Nat) (w : World) (ha : NatAt w av x) (hb : NatAt w bv y) :
    Calls Tryz.prog 103 #[av, bv] w fun e w' => e = .returned (.int .i64 (cmpN x y)) ∧ Below w.heap.size w w' := by
  have DA := Lib.hid (dig_Dg x)
  have DB := Lib.hid (dig_Dg y)
  have HX := Lib.hid (V_dig x)
  have HY := Lib.hid (V_dig y)
  have HL1 := Lib.hid (dig_len_lt (x := x) (y := y))
  have HL2 := Lib.hid (dig_len_lt (x := y) (y := x))
  unfold NatAt at ha hb
  generalize dig x = la at *
  generalize dig y = lb at *
  have HA := Lib.hid ha
  have HB := Lib.hid hb
  obtain ⟨aa, ac, rfl, hal, ham, -⟩ := ha
  obtain ⟨ba, bc, rfl, -⟩ := hb
  by_cases hlt : la.length < lb.length
  · have HR := Lib.hid (show cmpN x y = -1 by unfold cmpN; rw [if_pos (HL1.out hlt)])
    have i0 : (((la.length : Nat) : Int) != ((lb.length : Nat) : Int)) = true := by simp; omega
    have i1 : ((la.length : Int) < (lb.length : Int)) := by omega
    go_enter Tryz.func103, Tryz.ntmps103
    go_wp2
    go_ret
    exact ⟨ret_int HR.out.symm, Below.refl _ _⟩
  by_cases hgt : lb.length < la.length
  · have HR := Lib.hid (show cmpN x y = 1 by unfold cmpN; have := HL2.out hgt; rw [if_neg (by omega), if_pos this])
    have i0 : (((la.length : Nat) : Int) != ((lb.length : Nat) : Int)) = true := by simp; omega
    have i1 : ¬ ((la.length : Int) < (lb.length : Int)) := by omega
    go_enter Tryz.func103, Tryz.ntmps103
    go_wp2
    go_ret
    exact ⟨ret_int HR.out.symm, Below.refl _ _⟩
  have hle : la.length ≤ lb.length := by omega
  have hle2 : lb.length ≤ la.length := by omega
  have HLE := Lib.hid (show la.length = lb.length by omega)
  have i0 : (((la.length : Nat) : Int) != ((lb.length : Nat) : Int)) = false := by rw [HLE.out]; simp
  clear hlt hgt
  go_enter Tryz.func103, Tryz.ntmps103
  go_wp2
  go_loopg [5] la.length (fun q s5 wr => ∃ (z : Int) (k : Nat), s5 = .int .i64 z ∧ z + 1 = (k : Int) ∧ k ≤ la.length ∧ k ≤ q ∧ Hid (la.drop k = lb.drop k) ∧ Below w.heap.size w wr)
  case atStart => exact ⟨_, la.length, rfl, by omega, Nat.le_refl _, Nat.le_refl _, by unfold Hid; rw [List.drop_of_length_le (Nat.le_refl _), List.drop_of_length_le hle2], Below.refl _ _⟩
  case round =>
    obtain ⟨z, k, rfl, hz, hk, hq, hD, hb⟩ := hrel
    cases k with
    | zero =>
      obtain rfl : z = -1 := by omega
      have HR := Lib.hid (show cmpN x y = 0 by
        have e : la = lb := hD.out
        have : x = y := by rw [← HX.out, ← HY.out, e]
        unfold cmpN; rw [if_neg (by omega), if_neg (by omega)])
      go_wp2
      go_ret
      exact ⟨ret_int HR.out.symm, hb⟩
    | succ j =>
      obtain rfl : z = (j : Int) := by omega
      have hA : j < la.length := by omega
      have hB : j < lb.length := by omega
      obtain ⟨a', c', he, _, _, hc⟩ := HA.out.below hb
      simp only [Value.slice.injEq, true_and] at he
      obtain ⟨rfl, rfl⟩ := he
      obtain ⟨b1, o1, rfl, z1⟩ := hc j hA
      clear hc
      obtain ⟨a', c', he, _, _, hc⟩ := HB.out.below hb
      simp only [Value.slice.injEq, true_and] at he
      obtain ⟨rfl, rfl⟩ := he
      obtain ⟨b2, o2, rfl, z2⟩ := hc j hB
      clear hc
      have HLT := Lib.hid (fun h : la[j] < lb[j] => lt_at DA.out HLE.out hA hD.out h)
      have HGT := Lib.hid (fun h : lb[j] < la[j] => lt_at DB.out HLE.out.symm hB hD.out.symm h)
      have HEQ := Lib.hid (fun h : la[j] = lb[j] => show la.drop j = lb.drop j by rw [List.drop_eq_getElem_cons hA, List.drop_eq_getElem_cons hB, h, hD.out])
      clear hz
      generalize la[j] = p at *
      generalize lb[j] = r at *
      by_cases h1 : p < r
      · have HR := Lib.hid (show cmpN x y = -1 by
          have := HLT.out h1
          rw [HX.out, HY.out] at this
          unfold cmpN; rw [if_pos this])
        have i1 : ((p : Int) < (r : Int)) := by omega
        clear h1
        go_wp2
        go_region
        go_wp2
        go_ret
        exact ⟨ret_int HR.out.symm, hb.drew⟩
      · have i1 : ¬ ((p : Int) < (r : Int)) := by omega
        by_cases h2 : r < p
        · have HR := Lib.hid (show cmpN x y = 1 by
            have := HGT.out h2
            rw [HX.out, HY.out] at this
            unfold cmpN; rw [if_neg (by omega), if_pos this])
          have i2 : ((p : Int) > (r : Int)) := by omega
          clear h1 h2
          go_wp2
          go_region
          go_wp2
          go_region
          go_wp2
          go_ret
          exact ⟨ret_int HR.out.symm, hb.drew.drew⟩
        · have HE := Lib.hid (HEQ.out (by omega))
          have i2 : ¬ ((p : Int) > (r : Int)) := by omega
          clear h1 h2
          go_wp2
          go_region
          go_wp2
          go_region
          go_wp2
          go_roundg j
          case measure => omega
          case rel => exact ⟨_, j, rfl, by omega, by omega, Nat.le_refl _, HE, hb.drew.drew⟩
end Go.Proofs.YtonogeiopicibaaGreatDoor

/- Walks: Double (brindlewoodref3). -/
namespace Go.Proofs.YtonogeiopicibaaGreatDoor
open Go.RowKit

theorem own_cellN {W : World} {base g c n : Nat} {e : TypeId} {l : List Nat} (h : W.ownsRow base e 1 (.slice (some ⟨g, 0, none⟩) n c) n (l.map cellN)) (hl : l.length = n) {j : Nat} (hj : j < l.length) : W.cell? ⟨g, j, none⟩ = some (.int .i64 ((l[j] : Nat) : Int)) := by
  subst hl
  obtain ⟨a, cap, he, _, _, hc⟩ := rowN_own h
  simp only [Value.slice.injEq, true_and] at he
  obtain ⟨rfl, rfl⟩ := he
  obtain ⟨b, off, e, h1⟩ := hc j hj
  simp only [Option.some.injEq, Addr.mk.injEq, and_true] at e
  obtain ⟨rfl, rfl⟩ := e
  simpa using h1

set_option maxRecDepth 100000 in
set_option maxHeartbeats 2000000 in
theorem Double_any (av : Value) (x : Nat) (one : Bool) (w : World) (ha : NatAt w av x) (na : (dig x).length ≤ 1000000) :
    Calls Tryz.prog 123 #[av, .bool one] w fun e w' => ∃ v', e = .returned v' ∧ NatAt w' v' (2 * x + one.toNat) ∧ Below w.heap.size w w' := by
  have DA := Lib.hid (dig_Dg x)
  have HX := Lib.hid (V_dig x)
  unfold NatAt at ha
  generalize dig x = la at *
  have HA := Lib.hid ha
  obtain ⟨aa, ac, rfl, hal, ham, -⟩ := ha
  obtain ⟨i0, hii, hz0, hz1, hz2⟩ := info_parts infoI
  go_enter Tryz.func123, Tryz.ntmps123
  go_upto_if 9 with fail
  go_cut [5] (fun s5 wx => s5 = .int .i64 (one.toNat : Nat) ∧ w = wx)
  case first =>
    cases one with
    | true =>
      go_wp2
      go_meet
      exact ⟨rfl, rfl⟩
    | false =>
      go_wp2
      go_meet
      exact ⟨rfl, rfl⟩
  case rest =>
  obtain ⟨rfl, rfl⟩ := hcut
  have hone : one.toNat ≤ 1 := by cases one <;> simp
  generalize hon : one.toNat = on at *
  have HON := Lib.hid hon
  clear hon
  go_wp2
  go_loopg [5, 6, 7] la.length (fun q s5 s6 s7 wr => ∃ (k c : Nat) (o : List Nat), s7 = .int .i64 k ∧ s5 = .int .i64 c ∧ c ≤ 1 ∧ k ≤ la.length ∧ la.length - k ≤ q ∧ wr.ownsRow w.heap.size 3 1 s6 o.length (o.map cellN) ∧ o.length = k ∧
    Hid (V o + c * 65536 ^ k = 2 * V (la.take k) + on) ∧ Hid (Dg o) ∧ Below w.heap.size w wr)
  case atStart => exact ⟨0, on, [], rfl, rfl, hone, by omega, by omega, World.ownsRow_nil _ _ _ _, rfl, by unfold Hid; simp [V_nil], Dg.nil, Below.refl _ _⟩
  case round =>
    obtain ⟨k, c, o, rfl, rfl, hc1, hkl, hq, hown, hol, hV, hD, hb⟩ := hrel
    have HOL := Lib.hid hol
    by_cases hA : k < la.length
    · have i1 : ((k : Int) < (la.length : Int)) := by omega
      obtain ⟨a', c', he, _, _, hc⟩ := HA.out.below hb
      simp only [Value.slice.injEq, true_and] at he
      obtain ⟨rfl, rfl⟩ := he
      obtain ⟨b1, o1, rfl, z1⟩ := hc k hA
      have hp := DA.out.at hA
      have HS := Lib.hid (double_step hV.out hol hA rfl)
      clear hc hV
      generalize la[k] = p at *
      have hx : 2 * (p : Int) + (c : Int) = ((2 * p + c : Nat) : Int) := by omega
      have T1 := Lib.hid (show (2 * (p : Int) + (c : Int)) % 65536 = (((2 * p + c) % 65536 : Nat) : Int) by rw [hx]; rfl)
      have T2 := Lib.hid (show (2 * (p : Int) + (c : Int)) / 65536 = (((2 * p + c) / 65536 : Nat) : Int) by rw [hx]; rfl)
      have HD2 := Lib.hid (hD.out.snoc (d := (2 * p + c) % 65536) (Nat.mod_lt _ (by omega)))
      have hx2 : (2 * p + c) / 65536 ≤ 1 := by omega
      have hol2 : o.length ≤ la.length := by omega
      clear hx hol
      go_wp2_with (at_builtin; refine wpList_append_own _ rfl _ _ 127 rfl w.heap.size 3 i0 (.int .i64 0) 1 8 Tryz.underlying127 hii hz0 hz1 hz2 rfl (by decide) _ _ _ rfl (hown.alloc _) ⟨wr.heap.size, 0, none⟩ 1 1 [.int .i64 ((2 * (p : Int) + (c : Int)) % 65536)] rfl rfl ?c1d1 ?c2d1 ?c3d1 ?c4d1 ?c5d1 ?_)
      try (case c1d1 => exact cell_one_new _ _ _)
      try (case c2d1 => simp [Value.oneCell'])
      case c3d1 => rw [maxLen_eq']; omega
      case c4d1 => omega
      case c5d1 => have := hb.size; simp; omega
      intro v' w2 hown2 hgr2 _
      have hb2 : Below w.heap.size w w2 := (hb.alloc hb.size _).grown hgr2 (by have := hb.size; simp; omega) (fun q hq => (hown.lt q hq).1)
      have hown3 := own_snoc (x := (2 * p + c) % 65536) hown2 rfl T1.out
      clear hown hown2 hgr2
      go_wp2
      go_roundg (la.length - (k + 1))
      case measure => omega
      case rel => exact ⟨k + 1, (2 * p + c) / 65536, _, by go_num, by rw [← T2.out], hx2, by omega, Nat.le_refl _, hown3, by simp [HOL.out], HS, HD2, hb2⟩
    · have hk' : k = la.length := by omega
      have hV2 := hV.out
      rw [hk', List.take_of_length_le (Nat.le_refl _), HX.out] at hV2
      have i1 : ¬ ((k : Int) < (la.length : Int)) := by omega
      by_cases hc0 : c = 0
      · subst hc0
        have hT := trim_any u6 o wr (rowN_own hown) hD.out
        rw [show V o = 2 * x + on by omega] at hT
        have HT := Lib.hid hT
        clear hT hV hV2 hk' hol
        go_wp2_with (go_at_call 124; refine HT.out.mono ?_; rintro e w3 ⟨v', rfl, hN, rfl⟩)
        go_ret
        exact ⟨_, rfl, by rw [HON.out]; exact hN, hb⟩
      · have i2 : ((c : Int) > 0) := by omega
        have HV3 := Lib.hid (show V (o ++ [c]) = 2 * x + on by rw [V_snoc, hol, hk', Nat.mul_comm]; exact hV2)
        have HD3 := Lib.hid (hD.out.snoc (d := c) (by omega))
        have hol2 : o.length ≤ la.length := by omega
        clear hV hV2 hk' hol hc0
        go_wp2_with (at_builtin; refine wpList_append_own _ rfl _ _ 127 rfl w.heap.size 3 i0 (.int .i64 0) 1 8 Tryz.underlying127 hii hz0 hz1 hz2 rfl (by decide) _ _ _ rfl (hown.alloc _) ⟨wr.heap.size, 0, none⟩ 1 1 [.int .i64 (c : Int)] rfl rfl ?c1d2 ?c2d2 ?c3d2 ?c4d2 ?c5d2 ?_)
        try (case c1d2 => exact cell_one_new _ _ _)
        try (case c2d2 => simp [Value.oneCell'])
        case c3d2 => rw [maxLen_eq']; omega
        case c4d2 => omega
        case c5d2 => have := hb.size; simp; omega
        intro v' w2 hown2 hgr2 _
        have hb2 : Below w.heap.size w w2 := (hb.alloc hb.size _).grown hgr2 (by have := hb.size; simp; omega) (fun q hq => (hown.lt q hq).1)
        have hown3 := own_snoc (x := c) hown2 rfl rfl
        have hT := trim_any v' (o ++ [c]) w2 (rowN_own hown3) HD3.out
        rw [HV3.out] at hT
        have HT := Lib.hid hT
        clear hown hown2 hgr2 hT
        go_wp2_with (go_at_call 124; refine HT.out.mono ?_; rintro e w3 ⟨v'', rfl, hN, rfl⟩)
        go_ret
        exact ⟨_, rfl, by rw [HON.out]; exact hN, hb2⟩

set_option maxRecDepth 100000 in
set_option maxHeartbeats 2000000 in
theorem Halve_any (av : Value) (x d : Nat) (w : World) (ha : NatAt w av x) (na : (dig x).length ≤ 1000000) (hd0 : 0 < d) (hd1 : d ≤ 65536) :
    Calls Tryz.prog 120 #[av, .int .i64 d] w fun e w' => ∃ v', e = .returned (.tuple #[v', .int .i64 ((x % d : Nat) : Int)]) ∧ NatAt w' v' (x / d) ∧ Below w.heap.size w w' := by
  have DA := Lib.hid (dig_Dg x)
  have HX := Lib.hid (V_dig x)
  unfold NatAt at ha
  generalize dig x = la at *
  have HA := Lib.hid ha
  obtain ⟨aa, ac, rfl, hal, ham, -⟩ := ha
  obtain ⟨i0, hii, hz0, hz1, hz2⟩ := info_parts infoI
  have hdz : ¬ ((d : Int) = 0) := by omega
  go_enter Tryz.func120, Tryz.ntmps120
  go_wp2_with (at_make; refine wpList_make_full _ rfl _ _ 127 rfl w.heap.size 3 i0 (.int .i64 0) 1 Tryz.underlying127 hii hz0 hz1 .i64 .i64 _ _ la.length rfl rfl rfl rfl (by rw [hz2]; omega) (by unfold maxLen; omega) (Nat.le_refl _) ?_; intro w0 hown0 hgrow0)
  have hownz : w0.ownsRow w.heap.size 3 1 (.slice (some ⟨w.heap.size, 0, none⟩) la.length la.length) la.length ((List.replicate la.length 0).map cellN) := by
    refine own_cast hown0 rfl ?_
    rw [Nat.mul_one]
    show (madeCells #[.int .i64 0] la.length).toList = _
    rw [toList_madeCells_one]
    simp [cellN]
  have hb0 : Below w.heap.size w w0 := below_of_grown hgrow0 (Nat.le_refl _) (fun k h => by cases h)
  clear hown0 hgrow0
  go_loopg [7, 8] la.length (fun q s7 s8 wr => ∃ (z : Int) (k R : Nat) (out : List Nat), s8 = .int .i64 z ∧ z + 1 = (k : Int) ∧ k ≤ la.length ∧ k ≤ q ∧ s7 = .int .i64 R ∧ R < d ∧ wr.ownsRow w.heap.size 3 1 (.slice (some ⟨w.heap.size, 0, none⟩) la.length la.length) la.length (out.map cellN) ∧ Hid (out.length = la.length) ∧
    Hid (V (la.drop k) = d * V (out.drop k) + R) ∧ Hid (Dg out) ∧ Below w.heap.size w wr)
  case atStart => exact ⟨_, la.length, 0, List.replicate la.length 0, rfl, by omega, Nat.le_refl _, Nat.le_refl _, rfl, hd0, hownz, by unfold Hid; simp, by unfold Hid; rw [List.drop_of_length_le (Nat.le_refl _), List.drop_of_length_le (by simp)]; simp [V_nil], Dg_zeros _, hb0⟩
  case round =>
    clear hownz hb0
    obtain ⟨z, k, R, out, rfl, hz, hk, hq, rfl, hR, hown, hol, hV, hD, hb⟩ := hrel
    cases k with
    | zero =>
      obtain rfl : z = -1 := by omega
      have hend := divide_end (show x = V out * d + R by have := hV.out; rw [List.drop_zero, List.drop_zero, HX.out] at this; rw [this, Nat.mul_comm]) hR
      have hT := trim_any (.slice (some ⟨w.heap.size, 0, none⟩) la.length la.length) out wr (rowN_own (own_cast hown hol.out.symm rfl)) hD.out
      rw [hend.1] at hT
      have HT := Lib.hid hT
      have HE := Lib.hid hend.2
      clear hT hend
      go_wp2_with (go_at_call 124; refine HT.out.mono ?_; rintro e w3 ⟨v', rfl, hN, rfl⟩)
      refine bodyPost_ret (v := .tuple #[v', .int .i64 (R : Int)]) (by simp [results, Tryz.results120, go_sem]) rfl ?_
      exact ⟨_, by rw [HE.out], hN, hb⟩
    | succ j =>
      obtain rfl : z = (j : Int) := by omega
      have hA : j < la.length := by omega
      obtain ⟨a', c', he, _, _, hc⟩ := HA.out.below hb
      simp only [Value.slice.injEq, true_and] at he
      obtain ⟨rfl, rfl⟩ := he
      obtain ⟨b1, o1, rfl, z1⟩ := hc j hA
      have hp := DA.out.at hA
      have HS := Lib.hid (halve_step (i := j) (y := R * 65536 + la[j]) hV.out hA hol.out rfl)
      have f0 := hown.frozenAt j
      have hoj : j < out.length := by rw [hol.out]; exact hA
      have z2 := own_cellN hown hol.out hoj
      clear hc hV hz
      generalize la[j] = p at *
      have hyd : (R * 65536 + p) / d < 65536 := by
        rw [Nat.div_lt_iff_lt_mul hd0]
        have : R * 65536 + 65536 ≤ d * 65536 := by omega
        rw [Nat.mul_comm 65536 d]; omega
      have HD2 := Lib.hid (hD.out.set j hyd)
      have HOL := Lib.hid (show (out.set j ((R * 65536 + p) / d)).length = la.length by simp [hol.out])
      have hR2 : (R * 65536 + p) % d < d := Nat.mod_lt _ hd0
      have T0 : ((R : Int) * 65536 + (p : Int)) = ((R * 65536 + p : Nat) : Int) := by omega
      have T1 : ((R : Int) * 65536 + (p : Int)) / (d : Int) = (((R * 65536 + p) / d : Nat) : Int) := by rw [T0]; rfl
      have T2 := Lib.hid (show ((R : Int) * 65536 + (p : Int)) % (d : Int) = (((R * 65536 + p) % d : Nat) : Int) by rw [T0]; rfl)
      have hset := hown.stored j (.int .i64 (((R : Int) * 65536 + (p : Int)) / (d : Int)))
      have HSET := Lib.hid (own_cast hset.1 rfl (show (out.map cellN).set j (.int .i64 (((R : Int) * 65536 + (p : Int)) / (d : Int))) = (out.set j ((R * 65536 + p) / d)).map cellN by rw [List.map_set, T1]; rfl))
      have hbS := hb.setCell (p := ⟨w.heap.size, j, none⟩) (Nat.le_refl _) (.int .i64 (((R : Int) * 65536 + (p : Int)) / (d : Int)))
      clear hset T0 T1 hyd
      go_wp2
      go_roundg j
      case measure => omega
      case rel => exact ⟨_, j, (R * 65536 + p) % d, out.set j ((R * 65536 + p) / d), rfl, by omega, by omega, Nat.le_refl _, by rw [← T2.out], hR2, HSET.out, HOL, HS, HD2, hbS⟩
end Go.Proofs.YtonogeiopicibaaGreatDoor

/- Walk: Common, the greatest common divisor (brindlewoodref3). -/
namespace Go.Proofs.YtonogeiopicibaaGreatDoor
open Go.RowKit

theorem NatAt.zero {w : World} {v : Value} (h : NatAt w v 0) : ∃ a c, v = .slice a 0 c := by
  unfold NatAt at h
  rw [dig_zero] at h
  obtain ⟨a, c, rfl, _⟩ := h
  exact ⟨a, c, rfl⟩
theorem NatAt.first {w : World} {v : Value} {n : Nat} (h : NatAt w v n) (h0 : n ≠ 0) : ∃ b off m c, v = .slice (some ⟨b, off, none⟩) (m + 1) c ∧ m + 1 ≤ c ∧ c ≤ 9223372036854775807 ∧ w.cell? ⟨b, off, none⟩ = some (.int .i64 ((n % 65536 : Nat) : Int)) := by
  unfold NatAt at h
  rw [dig_pos h0] at h
  obtain ⟨a, c, rfl, hl, hm, hc⟩ := h
  obtain ⟨b, off, rfl, h1⟩ := hc 0 (by simp)
  exact ⟨b, off, (dig (n / 65536)).length, c, rfl, hl, hm, by simpa using h1⟩
theorem dig_len_of_le {x y n : Nat} (h : x ≤ y) (hn : (dig y).length ≤ n) : (dig x).length ≤ n := Nat.le_trans (dig_len_mono h) hn
theorem twos_bound {x t a n : Nat} (h : 2 ^ t * a ≤ x) (ha : 0 < a) (hn : (dig x).length ≤ n) : t < 16 * n := by
  have h1 := dig_lt x
  have h2 : 65536 ^ (dig x).length ≤ 65536 ^ n := Nat.pow_le_pow_right (by omega) hn
  have h3 : 2 ^ t ≤ 2 ^ t * a := Nat.le_mul_of_pos_right _ ha
  have h4 : 65536 ^ n = 2 ^ (16 * n) := by rw [Nat.pow_mul]
  rcases Nat.lt_or_ge t (16 * n) with h5 | h5
  · exact h5
  · have h6 : 2 ^ (16 * n) ≤ 2 ^ t := Nat.pow_le_pow_right (by omega) h5
    omega
theorem half_le (a : Nat) : a / 2 ≤ a := Nat.div_le_self _ _
/-- One more two taken out. -/
theorem gcd_two {X a b t : Nat} (h : X = Nat.gcd a b * 2 ^ t) (ha : a % 2 = 0) (hb : b % 2 = 0) : X = Nat.gcd (a / 2) (b / 2) * 2 ^ (t + 1) := by
  rw [h, gcd_even2 ha hb, Nat.pow_succ, Nat.mul_comm 2, Nat.mul_assoc, Nat.mul_comm 2]

theorem gcd_len {x y n : Nat} (na : (dig x).length ≤ n) (nb : (dig y).length ≤ n) : (dig (Nat.gcd x y)).length ≤ n := by
  rcases Nat.eq_zero_or_pos x with rfl | hx
  · rw [Nat.gcd_zero_left]; exact nb
  · exact dig_len_of_le (Nat.gcd_le_left y hx) na

set_option maxRecDepth 100000 in
set_option maxHeartbeats 4000000 in
theorem Common_any (av bv : Value) (x y : Nat) (w : World) (ha : NatAt w av x) (hb : NatAt w bv y) (na : (dig x).length ≤ 100000) (nb : (dig y).length ≤ 100000) :
    Calls Tryz.prog 104 #[av, bv] w fun e w' => ∃ v', e = .returned v' ∧ NatAt w' v' (Nat.gcd x y) ∧ Below w.heap.size w w' := by
  have HA := Lib.hid ha
  have HB := Lib.hid hb
  have NA := Lib.hid na
  have NB := Lib.hid nb
  clear ha hb na nb
  go_enter Tryz.func104, Tryz.ntmps104
  go_upto_block 0 with fail
  go_cut [0, 1, 5] (fun s0 s1 s5 wx => ∃ a b t : Nat, NatAt wx s0 a ∧ NatAt wx s1 b ∧ s5 = .int .i64 t ∧ Hid (Nat.gcd x y = (a + b) * 2 ^ t) ∧ a ≤ x ∧ b ≤ y ∧ t ≤ 1600000 ∧ Below w.heap.size w wx)
  case first => as_aux_lemma =>
    go_wp2
    go_loopg [0, 1, 5] (x + y) (fun q s0 s1 s5 wr => ∃ a b t : Nat, NatAt wr s0 a ∧ NatAt wr s1 b ∧ s5 = .int .i64 t ∧ a + b ≤ q ∧ Hid (Nat.gcd x y = Nat.gcd a b * 2 ^ t) ∧ a ≤ x ∧ b ≤ y ∧ Hid (2 ^ t * a ≤ x) ∧ t ≤ 1600000 ∧ Below w.heap.size w wr)
    case atStart => exact ⟨x, y, 0, HA.out, HB.out, rfl, Nat.le_refl _, by unfold Hid; simp, Nat.le_refl _, Nat.le_refl _, by unfold Hid; simp, by omega, Below.refl _ _⟩
    case round =>
      obtain ⟨a, b, t, hA, hB, rfl, hq, hG, hax, hby, h2, ht, hbw⟩ := hrel
      by_cases ha0 : a = 0
      · subst ha0
        obtain ⟨va, vc, hva⟩ := hA.zero
        have HA2 := Lib.hid hA
        have HG2 := Lib.hid (show Nat.gcd x y = (0 + b) * 2 ^ t by rw [hG.out, Nat.gcd_zero_left, Nat.zero_add])
        subst hva
        clear hA hG
        go_wp2
        go_meet
        exact ⟨0, b, t, HA2.out, hB, rfl, HG2, hax, hby, ht, hbw⟩
      by_cases hb0 : b = 0
      · subst hb0
        obtain ⟨b1, o1, m1, c1, hva, hm1, hc1, z1⟩ := hA.first ha0
        obtain ⟨vb, vc, hvb⟩ := hB.zero
        have HA2 := Lib.hid hA
        have HB2 := Lib.hid hB
        have HG2 := Lib.hid (show Nat.gcd x y = (a + 0) * 2 ^ t by rw [hG.out, Nat.gcd_zero_right, Nat.add_zero])
        subst hva
        subst hvb
        have i1 : (((m1 + 1 : Nat) : Int) > 0) := by omega
        clear hA hB hG
        go_wp2
        go_meet
        exact ⟨a, 0, t, HA2.out, HB2.out, rfl, HG2, hax, hby, ht, hbw⟩
      obtain ⟨b1, o1, m1, c1, hva, hm1, hc1, z1⟩ := hA.first ha0
      obtain ⟨b2, o2, m2, c2, hvb, hm2, hc2, z2⟩ := hB.first hb0
      have HA2 := Lib.hid hA
      have HB2 := Lib.hid hB
      subst hva
      subst hvb
      have i1 : (((m1 + 1 : Nat) : Int) > 0) := by omega
      have i2 : (((m2 + 1 : Nat) : Int) > 0) := by omega
      have HPa := Lib.hid (show (a % 65536) % 2 = a % 2 by omega)
      have HPb := Lib.hid (show (b % 65536) % 2 = b % 2 by omega)
      clear hA hB
      generalize a % 65536 = p at *
      generalize b % 65536 = r at *
      by_cases hea : a % 2 = 0
      · have e1 : (((p : Int) % 2) == 0) = true := by have := HPa.out; simp; omega
        have hCa := Lib.hid (fun W (h : Below wr.heap.size wr W) => Halve_any _ a 2 W (HA2.out.below h) (Nat.le_trans (dig_len_of_le hax NA.out) (by omega)) (by omega) (by omega))
        by_cases heb : b % 2 = 0
        · have e2 : (((r : Int) % 2) == 0) = true := by have := HPb.out; simp; omega
          have hCb := Lib.hid (fun W (h : Below wr.heap.size wr W) => Halve_any _ b 2 W (HB2.out.below h) (Nat.le_trans (dig_len_of_le hby NB.out) (by omega)) (by omega) (by omega))
          have HG2 := Lib.hid (gcd_two hG.out hea heb)
          have H22 := Lib.hid (show 2 ^ (t + 1) * (a / 2) ≤ x by rw [Nat.pow_succ, Nat.mul_assoc, show 2 * (a / 2) = a by omega]; exact h2.out)
          have ht2 : t + 1 < 16 * 100000 := twos_bound H22.out (by omega) NA.out
          have hd : a / 2 + b / 2 < a + b := by omega
          have hax2 : a / 2 ≤ x := by omega
          have hby2 : b / 2 ≤ y := by omega
          clear hea heb hG h2 ha0 hb0
          go_wp2_with fail
          refine (hCa.out wr (Below.refl _ _)).mono ?_
          rintro e wh ⟨v', rfl, hN1, hbh⟩
          go_wp2_with fail
          refine (hCb.out wh hbh).mono ?_
          rintro e wi ⟨v'', rfl, hN2, hbi⟩
          have hN1' := hN1.below hbi
          have hbb := ext_trans hbw (ext_trans hbh hbi)
          clear hCa hCb hN1 hbh hbi
          go_wp2
          go_roundg (a / 2 + b / 2)
          case measure => omega
          case rel => exact ⟨a / 2, b / 2, t + 1, hN1', hN2, by go_num, Nat.le_refl _, HG2, hax2, hby2, H22, by omega, hbb⟩
        · have e2 : (((r : Int) % 2) == 0) = false := by have := HPb.out; simp; omega
          have HG2 := Lib.hid (show Nat.gcd x y = Nat.gcd (a / 2) b * 2 ^ t by rw [hG.out, gcd_even1 hea (by omega)])
          have H22 := Lib.hid (Nat.le_trans (Nat.mul_le_mul_left (2 ^ t) (half_le a)) h2.out)
          have hd : a / 2 + b < a + b := by omega
          have hax2 : a / 2 ≤ x := by omega
          clear hea heb hG h2 ha0 hb0
          go_wp2_with fail
          refine (hCa.out wr (Below.refl _ _)).mono ?_
          rintro e wh ⟨v', rfl, hN1, hbh⟩
          have hN2 := HB2.out.below hbh
          have hbb := ext_trans hbw hbh
          clear hCa hbh
          go_wp2
          go_roundg (a / 2 + b)
          case measure => omega
          case rel => exact ⟨a / 2, b, t, hN1, hN2, rfl, Nat.le_refl _, HG2, hax2, hby, H22, ht, hbb⟩
      · have e1 : (((p : Int) % 2) == 0) = false := by have := HPa.out; simp; omega
        by_cases heb : b % 2 = 0
        · have e2 : (((r : Int) % 2) == 0) = true := by have := HPb.out; simp; omega
          have hCb := Lib.hid (fun W (h : Below wr.heap.size wr W) => Halve_any _ b 2 W (HB2.out.below h) (Nat.le_trans (dig_len_of_le hby NB.out) (by omega)) (by omega) (by omega))
          have HG2 := Lib.hid (show Nat.gcd x y = Nat.gcd a (b / 2) * 2 ^ t by rw [hG.out, Nat.gcd_comm, gcd_even1 heb (by omega), Nat.gcd_comm])
          have hd : a + b / 2 < a + b := by omega
          have hby2 : b / 2 ≤ y := by omega
          clear hea heb hG ha0 hb0
          go_wp2_with fail
          refine (hCb.out wr (Below.refl _ _)).mono ?_
          rintro e wh ⟨v', rfl, hN2, hbh⟩
          have hN1 := HA2.out.below hbh
          have hbb := ext_trans hbw hbh
          clear hCb hbh
          go_wp2
          go_roundg (a + b / 2)
          case measure => omega
          case rel => exact ⟨a, b / 2, t, hN1, hN2, rfl, Nat.le_refl _, HG2, hax, hby2, h2, ht, hbb⟩
        · have e2 : (((r : Int) % 2) == 0) = false := by have := HPb.out; simp; omega
          have hCc := Lib.hid (Compare_any _ _ a b wr HA2.out HB2.out)
          by_cases hge : b ≤ a
          · have hcm : cmpN a b ≥ 0 := by unfold cmpN; rw [if_neg (by omega)]; split <;> omega
            have hCm := Lib.hid (fun W (h : Below wr.heap.size wr W) => Minus_any _ _ a b W (HA2.out.below h) (HB2.out.below h) hge (Nat.le_trans (dig_len_of_le hax NA.out) (by omega)))
            have HG2 := Lib.hid (show Nat.gcd x y = Nat.gcd (a - b) b * 2 ^ t by rw [hG.out, gcd_less hge])
            have H22 := Lib.hid (Nat.le_trans (Nat.mul_le_mul_left (2 ^ t) (Nat.sub_le a b)) h2.out)
            have hd : a - b + b < a + b := by omega
            have hax2 : a - b ≤ x := by omega
            clear hea heb hG h2 ha0 hb0 hge
            generalize cmpN a b = cm at *
            go_wp2_with fail
            refine hCc.out.mono ?_
            rintro e wh ⟨rfl, hbh⟩
            go_wp2_with fail
            refine (hCm.out wh hbh).mono ?_
            rintro e wi ⟨v', rfl, hN1, hbi⟩
            have hbj := ext_trans hbh hbi
            have hN2 := HB2.out.below hbj
            have hbb := ext_trans hbw hbj
            clear hCc hCm hbh hbi hbj
            go_wp2
            go_roundg (a - b + b)
            case measure => omega
            case rel => exact ⟨a - b, b, t, hN1, hN2, rfl, Nat.le_refl _, HG2, hax2, hby, H22, ht, hbb⟩
          · have hcm : ¬ (cmpN a b ≥ 0) := by unfold cmpN; rw [if_pos (by omega)]; omega
            have hCm := Lib.hid (fun W (h : Below wr.heap.size wr W) => Minus_any _ _ b a W (HB2.out.below h) (HA2.out.below h) (by omega) (Nat.le_trans (dig_len_of_le hby NB.out) (by omega)))
            have HG2 := Lib.hid (show Nat.gcd x y = Nat.gcd a (b - a) * 2 ^ t by rw [hG.out, Nat.gcd_comm, gcd_less (show a ≤ b by omega), Nat.gcd_comm])
            have hd : a + (b - a) < a + b := by omega
            have hby2 : b - a ≤ y := by omega
            clear hea heb hG ha0 hb0 hge
            generalize cmpN a b = cm at *
            go_wp2_with fail
            refine hCc.out.mono ?_
            rintro e wh ⟨rfl, hbh⟩
            go_wp2_with fail
            refine (hCm.out wh hbh).mono ?_
            rintro e wi ⟨v', rfl, hN2, hbi⟩
            have hbj := ext_trans hbh hbi
            have hN1 := HA2.out.below hbj
            have hbb := ext_trans hbw hbj
            clear hCc hCm hbh hbi hbj
            go_wp2
            go_roundg (a + (b - a))
            case measure => omega
            case rel => exact ⟨a, b - a, t, hN1, hN2, rfl, Nat.le_refl _, HG2, hax, hby2, h2, ht, hbb⟩
  case rest =>
    obtain ⟨a, b, t, hA, hB, rfl, hG, hax, hby, ht, hbw⟩ := hcut
    have HGL := Lib.hid (gcd_len NA.out NB.out)
    have hP := Lib.hid (Plus_any _ _ a b wc hA hB (Nat.le_trans (dig_len_of_le hax NA.out) (by omega)) (Nat.le_trans (dig_len_of_le hby NB.out) (by omega)))
    clear hA hB
    go_wp2_with fail
    refine hP.out.mono ?_
    rintro e w1 ⟨v', rfl, hN, hb1⟩
    have hbb := ext_trans hbw hb1
    have HN := Lib.hid hN
    clear hP hN hbw hb1 hax hby
    generalize a + b = ab at *
    go_wp2
    go_loopg [5, 6] t (fun q s5 s6 wr => ∃ s o : Nat, s5 = .int .i64 s ∧ s ≤ q ∧ s ≤ 1600000 ∧ NatAt wr s6 o ∧ Hid (Nat.gcd x y = o * 2 ^ s) ∧ Below w.heap.size w wr)
    case atStart => exact ⟨t, ab, rfl, Nat.le_refl _, ht, HN.out, hG, hbb⟩
    case round =>
      clear hbb HN hG
      obtain ⟨s, o, rfl, hq, hs, hN, hG, hb⟩ := hrel
      by_cases hs0 : s = 0
      · subst hs0
        have HF := Lib.hid (show NatAt wr _ (Nat.gcd x y) by rw [hG.out, Nat.pow_zero, Nat.mul_one]; exact hN)
        clear hG hN
        go_wp2
        go_ret
        exact ⟨_, rfl, HF.out, hb⟩
      · have i1 : ((s : Int) > 0) := by omega
        have hol : o ≤ Nat.gcd x y := by rw [hG.out]; exact Nat.le_mul_of_pos_right _ (Nat.pow_pos (by omega))
        have hD := Lib.hid (Double_any _ o false wr hN (Nat.le_trans (dig_len_of_le hol HGL.out) (by omega)))
        have HG2 := Lib.hid (show Nat.gcd x y = (2 * o + false.toNat) * 2 ^ (s - 1) by
          rw [hG.out]
          obtain ⟨r, rfl⟩ : ∃ r, s = r + 1 := ⟨s - 1, by omega⟩
          rw [Nat.pow_succ, Nat.add_sub_cancel]
          show o * (2 ^ r * 2) = (2 * o + 0) * 2 ^ r
          rw [Nat.add_zero, Nat.mul_comm (2 ^ r) 2, ← Nat.mul_assoc, Nat.mul_comm o 2])
        clear hG hol hN
        go_wp2_with fail
        refine hD.out.mono ?_
        rintro e w2 ⟨v'', rfl, hN2, hb2⟩
        clear hD
        go_wp2
        go_roundg (s - 1)
        case measure => omega
        case rel => exact ⟨s - 1, _, by go_num, Nat.le_refl _, by omega, hN2, HG2, ext_trans hb hb2⟩
end Go.Proofs.YtonogeiopicibaaGreatDoor

/- A law for a region that draws its order, loads cells and stores to them later: a load may be taken first where what it reads stands in every world in which the load has not yet been carried out. Nothing here speaks of the program. -/
namespace Go.Proofs.YtonogeiopicibaaGreatDoor

section
variable {P : Program} {ops : Array Oper} {Q : Exit → Act → World → Prop} {md : Region.Mode} {S : Array Bool → World → Prop}

/-- Whatever comes up from here on; S, which may hang on what has been carried out, is shown behind each operation. -/
def wpAnyL (P : Program) (md : Region.Mode) (ops : Array Oper) (Q : Exit → Act → World → Prop) (S : Array Bool → World → Prop) : Nat → Array Bool → Act → World → Prop
  | 0, L, a, w => Region.ready md ops L = [] ∧ Q .normal a w
  | n + 1, L, a, w => (Region.ready md ops L = [] → Q .normal a w) ∧
      ∀ i ∈ Region.ready md ops L, wpOp P ops Q i (fun a' w' => S (L.setIfInBounds i true) w' ∧ wpAnyL P md ops Q S n (L.setIfInBounds i true) a' w') a w

theorem wpAny_of_L : ∀ (n : Nat) (L : Array Bool) (a : Act) (w : World), wpAnyL P md ops Q S n L a w → wpAny P md ops Q n L a w
  | 0, _, _, _, h => h
  | n + 1, _, _, _, h => ⟨h.1, fun i hi => wpOp_mono (fun a' w' h' => wpAny_of_L n _ a' w' h'.2) (h.2 i hi)⟩

/-- What has been carried out has behind it all that it waits for. -/
def Closed (md : Region.Mode) (ops : Array Oper) (L : Array Bool) : Prop :=
  ∀ (j : Nat) (o : Oper), ops[j]? = some o → L.getD j false = true → ∀ e ∈ o.after, Region.binds md e = true → L.getD e.on false = true

theorem getD_set_any (L : Array Bool) (i y : Nat) (d : Bool) (h : L.getD y d = true) : (L.setIfInBounds i true).getD y d = true := by
  rw [Array.getD_eq_getD_getElem?, Array.getElem?_setIfInBounds]
  rw [Array.getD_eq_getD_getElem?] at h
  by_cases hy : i = y
  · subst hy
    by_cases h2 : i < L.size
    · simp [h2]
    · rw [Array.getElem?_eq_none (by omega)] at h
      simpa [h2] using h
  · simpa [hy] using h

theorem Closed.step {L : Array Bool} {j : Nat} (h : Closed md ops L) (hj : j ∈ Region.ready md ops L) : Closed md ops (L.setIfInBounds j true) := by
  obtain ⟨hjun, oj, hoj, hall⟩ := mem_ready.1 hj
  intro k o hk hl e he hb
  by_cases hkj : k = j
  · subst hkj
    rw [hoj] at hk
    cases hk
    exact getD_set_any _ _ _ _ (hall e he hb)
  · rw [getD_set_ne false (Ne.symm hkj)] at hl
    exact getD_set_any _ _ _ _ (h k o hk hl e he hb)

theorem getD_put_ne (L : Array Bool) {i k : Nat} (h : i ≠ k) : (L.setIfInBounds i true).getD k false = L.getD k false := getD_set_ne false h

def edgeB (md : Region.Mode) (ops : Array Oper) (k i : Nat) : Bool := ((ops[k]?).map fun o => o.after.any fun e => Region.binds md e && e.on == i).getD false
theorem Closed.edge {L : Array Bool} {k i : Nat} (h : Closed md ops L) (he : edgeB md ops k i = true) (hk : L.getD k false = true) : L.getD i false = true := by
  unfold edgeB at he
  cases ho : ops[k]? with
  | none => rw [ho] at he; cases he
  | some o =>
    rw [ho] at he
    simp only [Option.map_some, Option.getD_some] at he
    obtain ⟨x, hx, hb⟩ := Array.any_eq_true.1 he
    obtain ⟨e, hm⟩ : ∃ e, e = o.after[x] := ⟨_, rfl⟩
    rw [← hm] at hb
    have hm : e ∈ o.after := hm ▸ Array.getElem_mem hx
    rw [Bool.and_eq_true, beq_iff_eq] at hb
    have := h k o ho hk e hm hb.1
    rw [hb.2] at this; exact this

def closedB (md : Region.Mode) (ops : Array Oper) (L : Array Bool) : Bool :=
  (List.range ops.size).all fun j => ((ops[j]?).map fun o => !(L.getD j false) || o.after.all fun e => !(Region.binds md e) || L.getD e.on false).getD true
theorem Closed.of_B {L : Array Bool} (h : closedB md ops L = true) : Closed md ops L := by
  intro j o hj hl e he hb
  unfold closedB at h
  rw [List.all_eq_true] at h
  have hjl : j < ops.size := by
    rcases Nat.lt_or_ge j ops.size with h' | h'
    · exact h'
    · rw [Array.getElem?_eq_none h'] at hj; cases hj
  have h1 := h j (List.mem_range.2 hjl)
  rw [hj] at h1
  simp only [Option.map_some, Option.getD_some, hl, Bool.not_true, Bool.false_or] at h1
  obtain ⟨x, hx, rfl⟩ := Array.getElem_of_mem he
  have h2 := Array.all_eq_true.1 h1 x hx
  rw [hb] at h2
  simpa using h2

/-- k waits for i: while i has not been carried out, neither has k. -/
theorem Closed.notYet {L : Array Bool} {k i : Nat} (h : Closed md ops L) (he : edgeB md ops k i = true) (hi : L.getD i false = false) : L.getD k false = false := by
  cases hk : L.getD k false with
  | false => rfl
  | true => rw [h.edge he hk] at hi; cases hi
theorem getD_false {L : Array Bool} {i : Nat} (h : L.getD i true = false) : L.getD i false = false := by
  rw [Array.getD_eq_getD_getElem?] at h ⊢
  cases hg : L[i]? with
  | none => rfl
  | some b => rw [hg] at h; simpa using h

theorem Closed.start (n : Nat) : Closed md ops (Array.replicate n false) := by
  intro j o _ hl
  exfalso
  rw [Array.getD_eq_getD_getElem?, Array.getElem?_replicate] at hl
  split at hl <;> simp at hl

theorem wpAnyL_first {T : World → Prop} {i : Nat} {oi : Oper} {v : Value} (hi : ops[i]? = some oi) (hsel : ∀ (j : Nat) (o : Oper) cs b, ops[j]? = some o → o.op ≠ .select cs b)
    (hQ : ∀ c a w, Q (.panic c) (a.put oi.dst v) w → Q (.panic c) a w) (hSi : ∀ L w, S (L.setIfInBounds i true) w ↔ S L w) (hT : ∀ L w, Closed md ops L → L.getD i true = false → S L w → T w) :
    ∀ (n : Nat) (L : Array Bool) (a : Act) (w : World), Closed md ops L →
      (∀ j oj, ops[j]? = some oj → j ≠ i → L.getD j true = false → (∀ e ∈ oj.after, Region.binds md e = true → e.on ≠ i) → oi.apart ops oj = true) →
      i ∈ Region.ready md ops L → YieldsIf P ops T oi v a → S L w →
      wpAnyL P md ops Q S n (L.setIfInBounds i true) (a.put oi.dst v) w → wpAnyL P md ops Q S (n + 1) L a w := by
  intro n
  induction n with
  | zero =>
    intro L a w hcl _ hr hy hS H
    refine ⟨fun h => (by rw [h] at hr; cases hr), fun j hj => ?_⟩
    by_cases hji : j = i
    · subst hji
      exact hy.wpOp hi (hT L w hcl (mem_ready.1 hr).1 hS) ⟨(hSi L w).2 hS, H⟩
    · have := ready_mono hj hji
      rw [H.1] at this
      cases this
  | succ n ih =>
    intro L a w hcl hfree hr hy hS H
    refine ⟨fun h => (by rw [h] at hr; cases hr), fun j hj => ?_⟩
    by_cases hji : j = i
    · subst hji
      exact hy.wpOp hi (hT L w hcl (mem_ready.1 hr).1 hS) ⟨(hSi L w).2 hS, H⟩
    · have h1 := H.2 j (ready_mono hj hji)
      obtain ⟨hjun, oj, hoj, hall⟩ := mem_ready.1 hj
      have hnot : ∀ e ∈ oj.after, Region.binds md e = true → e.on ≠ i := fun e he hb heq => by
        have h1 := hall e he hb
        have h0 := (mem_ready.1 hr).1
        rw [heq] at h1
        rcases Nat.lt_or_ge i L.size with h' | h'
        · simp [h'] at h0 h1; rw [h0] at h1; cases h1
        · simp [Array.getElem?_eq_none h'] at h1
      have h2 := wpOp_putIf hoj (hfree j oj hoj hji hjun hnot) (fun cs b => hsel i oi cs b hi) (fun cs b => hsel j oj cs b hoj) hQ hy h1
      have hfree' : ∀ k ok, ops[k]? = some ok → k ≠ i → (L.setIfInBounds j true).getD k true = false →
          (∀ e ∈ ok.after, Region.binds md e = true → e.on ≠ i) → oi.apart ops ok = true := fun k ok hk hki hun hno => by
        refine hfree k ok hk hki ?_ hno
        by_cases hjk : j = k
        · subst hjk; exact hjun
        · rw [getD_set_ne true hjk] at hun; exact hun
      refine wpOp_mono (fun a' w' h3 => ?_) h2
      have hS' : S (L.setIfInBounds j true) w' := by
        have h4 := h3.2.1
        rw [Array.setIfInBounds_comm _ _ (Ne.symm hji)] at h4
        exact (hSi _ _).1 h4
      refine ⟨hS', ih (L.setIfInBounds j true) a' w' (hcl.step hj) hfree' (ready_mono hr (Ne.symm hji)) h3.1 hS' ?_⟩
      rw [Array.setIfInBounds_comm _ _ hji]
      exact h3.2.2

/-- Take number i first. -/
theorem wpAnyL_take {T : World → Prop} {i : Nat} {oi : Oper} {v : Value} {n : Nat} {L : Array Bool} {a : Act} {w : World} (hi : ops[i]? = some oi)
    (hs : Region.noSelect ops = true) (hf : Region.free md ops L i = true) (hr : (Region.ready md ops L).contains i = true)
    (hQ : ∀ c a w, Q (.panic c) (a.put oi.dst v) w → Q (.panic c) a w) (hSi : ∀ L w, S (L.setIfInBounds i true) w ↔ S L w) (hT : ∀ L w, Closed md ops L → L.getD i true = false → S L w → T w) (hcl : Closed md ops L)
    (hy : YieldsIf P ops T oi v a) (hS : S L w) (h : wpAnyL P md ops Q S n (L.setIfInBounds i true) (a.put oi.dst v) w) : wpAnyL P md ops Q S (n + 1) L a w :=
  wpAnyL_first hi (Region.noSelect_spec hs) hQ hSi hT n L a w hcl (Region.free_spec hi hf) (by simpa using hr) hy hS h

theorem wpAnyL_all {rs : List Nat} {n : Nat} {L : Array Bool} {a : Act} {w : World} (hr : Region.ready md ops L = rs) (hne : rs ≠ [])
    (h : ∀ i ∈ rs, wpOp P ops Q i (fun a' w' => S (L.setIfInBounds i true) w' ∧ wpAnyL P md ops Q S n (L.setIfInBounds i true) a' w') a w) : wpAnyL P md ops Q S (n + 1) L a w :=
  ⟨fun h0 => absurd (hr ▸ h0) hne, hr ▸ h⟩

def AllL (P : Program) (md : Region.Mode) (ops : Array Oper) (Q : Exit → Act → World → Prop) (S : Array Bool → World → Prop) (n : Nat) (L : Array Bool) (a : Act) (w : World) (rs : List Nat) : Prop :=
  ∀ i ∈ rs, wpOp P ops Q i (fun a' w' => S (L.setIfInBounds i true) w' ∧ wpAnyL P md ops Q S n (L.setIfInBounds i true) a' w') a w
theorem AllL.nil {n : Nat} {L : Array Bool} {a : Act} {w : World} : AllL P md ops Q S n L a w [] := fun _ h => by cases h
theorem AllL.cons {n : Nat} {L : Array Bool} {a : Act} {w : World} {i : Nat} {o : Oper} {rs : List Nat} (ho : ops[i]? = some o) (hw : Region.wanted o (yielded ops a.tmps) = true)
    (h : ∀ K' : Act → World → Prop, (∀ a' w', S (L.setIfInBounds i true) w' ∧ wpAnyL P md ops Q S n (L.setIfInBounds i true) a' w' → K' a' w') → Oper.wp P o a w K' Q)
    (hs : AllL P md ops Q S n L a w rs) : AllL P md ops Q S n L a w (i :: rs) := fun j hj => by
  rcases List.mem_cons.1 hj with rfl | hj
  · unfold wpOp
    simp only [ho, hw, if_true]
    exact .inl (h _ fun _ _ h => h)
  · exact hs j hj
theorem wpAnyL_ready {rs : List Nat} {n : Nat} {L : Array Bool} {a : Act} {w : World} (hr : Region.ready md ops L = rs) (hne : rs ≠ []) (h : AllL P md ops Q S n L a w rs) : wpAnyL P md ops Q S (n + 1) L a w := wpAnyL_all hr hne h

theorem wpAnyL_done {L : Array Bool} {a : Act} {w : World} (hr : Region.ready md ops L = []) (h : Q .normal a w) : ∀ n, wpAnyL P md ops Q S n L a w
  | 0 => ⟨hr, h⟩
  | _ + 1 => ⟨fun _ => h, by rw [hr]; simp⟩

theorem wp_region_L {id : Nat} {a : Act} {w : World} (hm : P.follows .mixedOrders = true)
    (h : wpAnyL P .any ops Q S ops.size (Array.replicate ops.size false) a { w with drawn := w.drawn + 1 }) : (Code.region id ops true).wp P Q a w :=
  wp_region_any hm (wpAny_of_L _ _ _ _ h)
end
end Go.Proofs.YtonogeiopicibaaGreatDoor
