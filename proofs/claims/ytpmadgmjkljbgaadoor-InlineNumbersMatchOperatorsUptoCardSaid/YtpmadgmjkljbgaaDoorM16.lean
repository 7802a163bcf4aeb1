/- Part 16 of the proof. -/
import Derived.Test.YtpmadgmjkljbgaaDoorM15

/- Walk: Clamp. -/
namespace Go.Proofs.YtpmadgmjkljbgaaDoor
open Go.RowKit

def clampZ (z low high : Int) : Int := if z ≤ low then low else if high ≤ z then high else z
theorem cmpZ_le {x y : Int} : cmpZ x y ≤ 0 ↔ x ≤ y := by unfold cmpZ; split <;> (try split) <;> omega
theorem cmpZ_ge {x y : Int} : 0 ≤ cmpZ x y ↔ y ≤ x := by unfold cmpZ; split <;> (try split) <;> omega
theorem clampZ_in {z low high : Int} (h : low ≤ high) : low ≤ clampZ z low high ∧ clampZ z low high ≤ high := by unfold clampZ; split <;> (try split) <;> omega
theorem V_drop {l : List Nat} {i : Nat} (h : i < l.length) : V (l.drop i) = l[i] + 65536 * V (l.drop (i + 1)) := by
  rw [List.drop_eq_getElem_cons h, V_cons]
theorem V_drop_le (l : List Nat) (i : Nat) : V (l.drop i) ≤ V l := by
  rcases Nat.le_total i l.length with h | h
  · have := V_take_drop l i h
    have h1 : 1 * V (l.drop i) ≤ 65536 ^ i * V (l.drop i) := Nat.mul_le_mul_right _ (Nat.pow_pos (by omega))
    omega
  · rw [List.drop_of_length_le h]; exact Nat.zero_le _
theorem rowN_cell {w : World} {a : Option Addr} {n c : Nat} {m : Nat} (h : NatAt w (.slice a n c) m) {i : Nat} (hi : i < (dig m).length) : ∃ b off, a = some ⟨b, off, none⟩ ∧ w.cell? ⟨b, off + i, none⟩ = some (.int .i64 (((dig m)[i] : Nat) : Int)) := by
  unfold NatAt at h
  obtain ⟨a', cap, he, _, _, hc⟩ := h
  simp only [Value.slice.injEq] at he
  obtain ⟨rfl, _, rfl⟩ := he
  exact hc i hi
set_option maxRecDepth 100000 in
set_option maxHeartbeats 4000000 in
theorem Clamp_any (xv : Value) (z low high : Int) (w : World) (hx : IntAt w xv z) (hl1 : -4611686018427387904 < low) (hl2 : low ≤ high) (hl3 : high < 4611686018427387904) :
    Calls Tryd.prog 55 #[xv, .int .i64 low, .int .i64 high] w fun e w' => e = .returned (.int .i64 (clampZ z low high)) ∧ Below w.heap.size w w' := by
  have HX := Lib.hid (fun W (h : Below w.heap.size w W) => hx.below h)
  obtain ⟨b1, v1, m, rfl, hm, hz⟩ := hx
  have HM := Lib.hid hm
  have HDG := Lib.hid (dig_Dg m)
  have HVM := Lib.hid (V_dig m)
  have hzm : z.natAbs = m := by rw [← hz, ZI_abs]
  obtain ⟨a1, c1, rfl⟩ := hm.slice
  clear hm
  generalize hl1 : (dig m).length = l1 at HX HM
  have HL1 := Lib.hid hl1
  clear hl1
  have hal1 := ext_alloc w (.cells #[.bool b1, .slice a1 l1 c1] 41)
  have hal2 := heap_new w (.cells #[.bool b1, .slice a1 l1 c1] 41)
  go_enter Tryd.func55, Tryd.ntmps55
  go_upto_region 1 with fail
  generalize (w.alloc (.cells #[.bool b1, .slice a1 l1 c1] 41)) = w1 at *
  have hb1 := hal1
  have h1 := hal2
  clear hal1 hal2
  have hBd : Bxs [(w.heap.size, (.cells #[.bool b1, .slice a1 l1 c1] 41))] w w1.drew := ⟨hb1.drew, fun x hx => by
    simp only [List.mem_cons, List.not_mem_nil, or_false] at hx
    subst hx
    exact h1⟩
  clear h1 hb1
  by_cases hlow : z ≤ low
  · have HF := Lib.hid (show low = clampZ z low high by unfold clampZ; rw [if_pos hlow])
    have hcl := cmpZ_le.2 hlow
    clear hlow
    refine wp_region_noPanic ?_
    refine wp_region_L (S := fun _ W => Bxs [(w.heap.size, (.cells #[.bool b1, .slice a1 l1 c1] 41))] w W) (by kernel_rfl) ?_
    refine wpAnyL_take (T := fun W => Bxs [(w.heap.size, (.cells #[.bool b1, .slice a1 l1 c1] 41))] w W) (i := 0) (v := ?vva0) rfl (by kernel_rfl) (by kernel_rfl) (by kernel_rfl) (fun _ _ _ h => h) (fun _ _ => Iff.rfl) (fun _ _ _ _ h => h) (Closed.of_B (by kernel_rfl)) (Or.inl ⟨by kernel_rfl, ?hya0⟩) hBd ?resta0
    case hya0 =>
      intro W hW
      have hx0 := hW.2 ((w.heap.size, (.cells #[.bool b1, .slice a1 l1 c1] 41)) : Nat × Obj) (by simp)
      have dx0x0 := box_cell hx0 0
      have dx0x1 := box_cell hx0 1
      simp only [List.getElem?_toArray, List.getElem?_cons_zero, List.getElem?_cons_succ] at dx0x0 dx0x1
      clear hW
      go_simp; with_reducible rfl
    go_simp
    refine wpAnyL_take (T := fun _ => True) (i := 1) (v := ?vva1) rfl (by kernel_rfl) (by kernel_rfl) (by kernel_rfl) (fun _ _ _ h => h) (fun _ _ => Iff.rfl) (fun _ _ _ _ _ => trivial) (Closed.of_B (by kernel_rfl)) (Or.inl ⟨by kernel_rfl, ?hya1⟩) hBd ?resta1
    case hya1 => (intro w _; go_simp; with_reducible rfl)
    go_simp
    refine wpAnyL_ready (rs := [2]) (by kernel_rfl) (by simp) ?_
    refine AllL.cons rfl (by kernel_rfl) (fun K hK => ?_) AllL.nil
    go_simp
    refine (Number_any low _ (by omega) (by omega)).mono ?_
    rintro e W1a ⟨vn, rfl, hv, hb⟩
    have hB1a := hBd.below hb
    refine hK _ _ ⟨hB1a, ?_⟩
    clear hK K
    have HO := Lib.hid (IntOrder_any _ vn z low W1a (HX.out W1a hB1a.1) hv)
    clear hv hb
    refine wpAnyL_ready (rs := [3]) (by kernel_rfl) (by simp) ?_
    refine AllL.cons rfl (by kernel_rfl) (fun K hK => ?_) AllL.nil
    go_simp
    refine (HO.out).mono ?_
    rintro e W2a ⟨rfl, hb⟩
    have hB2a := hB1a.below hb
    refine hK _ _ ⟨hB2a, ?_⟩
    clear hK K
    clear hb HO
    generalize cmpZ z low = c at *
    refine wpAnyL_take (T := fun _ => True) (i := 4) (v := ?vva4) rfl (by kernel_rfl) (by kernel_rfl) (by kernel_rfl) (fun _ _ _ h => h) (fun _ _ => Iff.rfl) (fun _ _ _ _ _ => trivial) (Closed.of_B (by kernel_rfl)) (Or.inl ⟨by kernel_rfl, ?hya4⟩) hB2a ?resta4
    case hya4 => (intro w _; go_simp; with_reducible rfl)
    go_simp
    refine wpAnyL_done (by kernel_rfl) ?_ _
    refine NoPanic.normal ?_
    have hB3 := hB2a.1
    clear hB1a hB2a hBd
    go_wp2
    go_ret
    exact ⟨ret_int HF.out, hB3⟩
  · have hcl : ¬ (cmpZ z low ≤ 0) := fun h => hlow (cmpZ_le.1 h)
    refine wp_region_noPanic ?_
    refine wp_region_L (S := fun _ W => Bxs [(w.heap.size, (.cells #[.bool b1, .slice a1 l1 c1] 41))] w W) (by kernel_rfl) ?_
    refine wpAnyL_take (T := fun W => Bxs [(w.heap.size, (.cells #[.bool b1, .slice a1 l1 c1] 41))] w W) (i := 0) (v := ?vvb0) rfl (by kernel_rfl) (by kernel_rfl) (by kernel_rfl) (fun _ _ _ h => h) (fun _ _ => Iff.rfl) (fun _ _ _ _ h => h) (Closed.of_B (by kernel_rfl)) (Or.inl ⟨by kernel_rfl, ?hyb0⟩) hBd ?restb0
    case hyb0 =>
      intro W hW
      have hx0 := hW.2 ((w.heap.size, (.cells #[.bool b1, .slice a1 l1 c1] 41)) : Nat × Obj) (by simp)
      have dx0x0 := box_cell hx0 0
      have dx0x1 := box_cell hx0 1
      simp only [List.getElem?_toArray, List.getElem?_cons_zero, List.getElem?_cons_succ] at dx0x0 dx0x1
      clear hW
      go_simp; with_reducible rfl
    go_simp
    refine wpAnyL_take (T := fun _ => True) (i := 1) (v := ?vvb1) rfl (by kernel_rfl) (by kernel_rfl) (by kernel_rfl) (fun _ _ _ h => h) (fun _ _ => Iff.rfl) (fun _ _ _ _ _ => trivial) (Closed.of_B (by kernel_rfl)) (Or.inl ⟨by kernel_rfl, ?hyb1⟩) hBd ?restb1
    case hyb1 => (intro w _; go_simp; with_reducible rfl)
    go_simp
    refine wpAnyL_ready (rs := [2]) (by kernel_rfl) (by simp) ?_
    refine AllL.cons rfl (by kernel_rfl) (fun K hK => ?_) AllL.nil
    go_simp
    refine (Number_any low _ (by omega) (by omega)).mono ?_
    rintro e W1b ⟨vn, rfl, hv, hb⟩
    have hB1b := hBd.below hb
    refine hK _ _ ⟨hB1b, ?_⟩
    clear hK K
    have HO := Lib.hid (IntOrder_any _ vn z low W1b (HX.out W1b hB1b.1) hv)
    clear hv hb
    refine wpAnyL_ready (rs := [3]) (by kernel_rfl) (by simp) ?_
    refine AllL.cons rfl (by kernel_rfl) (fun K hK => ?_) AllL.nil
    go_simp
    refine (HO.out).mono ?_
    rintro e W2b ⟨rfl, hb⟩
    have hB2b := hB1b.below hb
    refine hK _ _ ⟨hB2b, ?_⟩
    clear hK K
    clear hb HO
    generalize cmpZ z low = c at *
    refine wpAnyL_take (T := fun _ => True) (i := 4) (v := ?vvb4) rfl (by kernel_rfl) (by kernel_rfl) (by kernel_rfl) (fun _ _ _ h => h) (fun _ _ => Iff.rfl) (fun _ _ _ _ _ => trivial) (Closed.of_B (by kernel_rfl)) (Or.inl ⟨by kernel_rfl, ?hyb4⟩) hB2b ?restb4
    case hyb4 => (intro w _; go_simp; with_reducible rfl)
    go_simp
    refine wpAnyL_done (by kernel_rfl) ?_ _
    refine NoPanic.normal ?_
    clear hcl hBd hB1b
    go_upto_region 3 with fail
    have hBq := hB2b.drew
    clear hB2b
    by_cases hhigh : high ≤ z
    · have HF := Lib.hid (show high = clampZ z low high by unfold clampZ; rw [if_neg hlow, if_pos hhigh])
      have hcl := cmpZ_ge.2 hhigh
      clear hhigh hlow
      refine wp_region_noPanic ?_
      refine wp_region_L (S := fun _ W => Bxs [(w.heap.size, (.cells #[.bool b1, .slice a1 l1 c1] 41))] w W) (by kernel_rfl) ?_
      refine wpAnyL_take (T := fun W => Bxs [(w.heap.size, (.cells #[.bool b1, .slice a1 l1 c1] 41))] w W) (i := 0) (v := ?vvc0) rfl (by kernel_rfl) (by kernel_rfl) (by kernel_rfl) (fun _ _ _ h => h) (fun _ _ => Iff.rfl) (fun _ _ _ _ h => h) (Closed.of_B (by kernel_rfl)) (Or.inl ⟨by kernel_rfl, ?hyc0⟩) hBq ?restc0
      case hyc0 =>
        intro W hW
        have hx0 := hW.2 ((w.heap.size, (.cells #[.bool b1, .slice a1 l1 c1] 41)) : Nat × Obj) (by simp)
        have dx0x0 := box_cell hx0 0
        have dx0x1 := box_cell hx0 1
        simp only [List.getElem?_toArray, List.getElem?_cons_zero, List.getElem?_cons_succ] at dx0x0 dx0x1
        clear hW
        go_simp; with_reducible rfl
      go_simp
      refine wpAnyL_take (T := fun _ => True) (i := 1) (v := ?vvc1) rfl (by kernel_rfl) (by kernel_rfl) (by kernel_rfl) (fun _ _ _ h => h) (fun _ _ => Iff.rfl) (fun _ _ _ _ _ => trivial) (Closed.of_B (by kernel_rfl)) (Or.inl ⟨by kernel_rfl, ?hyc1⟩) hBq ?restc1
      case hyc1 => (intro w _; go_simp; with_reducible rfl)
      go_simp
      refine wpAnyL_ready (rs := [2]) (by kernel_rfl) (by simp) ?_
      refine AllL.cons rfl (by kernel_rfl) (fun K hK => ?_) AllL.nil
      go_simp
      refine (Number_any high _ (by omega) (by omega)).mono ?_
      rintro e W1c ⟨vn, rfl, hv, hb⟩
      have hB1c := hBq.below hb
      refine hK _ _ ⟨hB1c, ?_⟩
      clear hK K
      have HO := Lib.hid (IntOrder_any _ vn z high W1c (HX.out W1c hB1c.1) hv)
      clear hv hb
      refine wpAnyL_ready (rs := [3]) (by kernel_rfl) (by simp) ?_
      refine AllL.cons rfl (by kernel_rfl) (fun K hK => ?_) AllL.nil
      go_simp
      refine (HO.out).mono ?_
      rintro e W2c ⟨rfl, hb⟩
      have hB2c := hB1c.below hb
      refine hK _ _ ⟨hB2c, ?_⟩
      clear hK K
      clear hb HO
      generalize cmpZ z high = c at *
      refine wpAnyL_take (T := fun _ => True) (i := 4) (v := ?vvc4) rfl (by kernel_rfl) (by kernel_rfl) (by kernel_rfl) (fun _ _ _ h => h) (fun _ _ => Iff.rfl) (fun _ _ _ _ _ => trivial) (Closed.of_B (by kernel_rfl)) (Or.inl ⟨by kernel_rfl, ?hyc4⟩) hB2c ?restc4
      case hyc4 => (intro w _; go_simp; with_reducible rfl)
      go_simp
      refine wpAnyL_done (by kernel_rfl) ?_ _
      refine NoPanic.normal ?_
      have hB3 := hB2c.1
      clear hB1c hB2c hBq
      go_wp2
      go_ret
      exact ⟨ret_int HF.out, hB3⟩
    · have HF := Lib.hid (show z = clampZ z low high by unfold clampZ; rw [if_neg hlow, if_neg hhigh])
      have hcl : ¬ (cmpZ z high ≥ 0) := fun h => hhigh (cmpZ_ge.1 h)
      refine wp_region_noPanic ?_
      refine wp_region_L (S := fun _ W => Bxs [(w.heap.size, (.cells #[.bool b1, .slice a1 l1 c1] 41))] w W) (by kernel_rfl) ?_
      refine wpAnyL_take (T := fun W => Bxs [(w.heap.size, (.cells #[.bool b1, .slice a1 l1 c1] 41))] w W) (i := 0) (v := ?vvd0) rfl (by kernel_rfl) (by kernel_rfl) (by kernel_rfl) (fun _ _ _ h => h) (fun _ _ => Iff.rfl) (fun _ _ _ _ h => h) (Closed.of_B (by kernel_rfl)) (Or.inl ⟨by kernel_rfl, ?hyd0⟩) hBq ?restd0
      case hyd0 =>
        intro W hW
        have hx0 := hW.2 ((w.heap.size, (.cells #[.bool b1, .slice a1 l1 c1] 41)) : Nat × Obj) (by simp)
        have dx0x0 := box_cell hx0 0
        have dx0x1 := box_cell hx0 1
        simp only [List.getElem?_toArray, List.getElem?_cons_zero, List.getElem?_cons_succ] at dx0x0 dx0x1
        clear hW
        go_simp; with_reducible rfl
      go_simp
      refine wpAnyL_take (T := fun _ => True) (i := 1) (v := ?vvd1) rfl (by kernel_rfl) (by kernel_rfl) (by kernel_rfl) (fun _ _ _ h => h) (fun _ _ => Iff.rfl) (fun _ _ _ _ _ => trivial) (Closed.of_B (by kernel_rfl)) (Or.inl ⟨by kernel_rfl, ?hyd1⟩) hBq ?restd1
      case hyd1 => (intro w _; go_simp; with_reducible rfl)
      go_simp
      refine wpAnyL_ready (rs := [2]) (by kernel_rfl) (by simp) ?_
      refine AllL.cons rfl (by kernel_rfl) (fun K hK => ?_) AllL.nil
      go_simp
      refine (Number_any high _ (by omega) (by omega)).mono ?_
      rintro e W1d ⟨vn, rfl, hv, hb⟩
      have hB1d := hBq.below hb
      refine hK _ _ ⟨hB1d, ?_⟩
      clear hK K
      have HO := Lib.hid (IntOrder_any _ vn z high W1d (HX.out W1d hB1d.1) hv)
      clear hv hb
      refine wpAnyL_ready (rs := [3]) (by kernel_rfl) (by simp) ?_
      refine AllL.cons rfl (by kernel_rfl) (fun K hK => ?_) AllL.nil
      go_simp
      refine (HO.out).mono ?_
      rintro e W2d ⟨rfl, hb⟩
      have hB2d := hB1d.below hb
      refine hK _ _ ⟨hB2d, ?_⟩
      clear hK K
      clear hb HO
      generalize cmpZ z high = c at *
      refine wpAnyL_take (T := fun _ => True) (i := 4) (v := ?vvd4) rfl (by kernel_rfl) (by kernel_rfl) (by kernel_rfl) (fun _ _ _ h => h) (fun _ _ => Iff.rfl) (fun _ _ _ _ _ => trivial) (Closed.of_B (by kernel_rfl)) (Or.inl ⟨by kernel_rfl, ?hyd4⟩) hB2d ?restd4
      case hyd4 => (intro w _; go_simp; with_reducible rfl)
      go_simp
      refine wpAnyL_done (by kernel_rfl) ?_ _
      refine NoPanic.normal ?_
      clear hcl hBq hB1d
      have hmb : m < 4611686018427387904 := by omega
      clear hlow hhigh
      have hx4 := hB2d.2 (w.heap.size, (.cells #[.bool b1, .slice a1 l1 c1] 41)) (by simp)
      have hb4 := hB2d.1
      have HM4 := Lib.hid (HM.out.below hb4)
      clear hB2d
      have hl4 : l1 ≤ 4 := by rw [← HL1.out]; exact dig_length_le (by omega)
      have d0 := box_cell hx4 0
      have d1 := box_cell hx4 1
      simp only [List.getElem?_toArray, List.getElem?_cons_zero, List.getElem?_cons_succ] at d0 d1
      have HLen := HL1
      go_wp2
      go_loopg [7, 8] l1 (fun q s7 s8 wr => ∃ (k : Nat) (zz : Int), s8 = .int .i64 zz ∧ zz + 1 = (k : Int) ∧ k ≤ l1 ∧ k ≤ q ∧ s7 = .int .i64 ((V ((dig m).drop k) : Nat) : Int) ∧ wr = W2d)
      case atStart => exact ⟨l1, _, rfl, by omega, Nat.le_refl _, Nat.le_refl _, by rw [List.drop_of_length_le (by rw [HL1.out]; exact Nat.le_refl _)]; rfl, rfl⟩
      case round =>
        obtain ⟨k, zz, rfl, hzz, hk, hq, rfl, rfl⟩ := hrel
        cases k with
        | zero =>
          obtain rfl : zz = -1 := by omega
          have hv0 : V ((dig m).drop 0) = m := by rw [List.drop_zero, HVM.out]
          rw [hv0]
          have hwn : IntKind.i64.wrap (-(m : Int)) = -(m : Int) := IntWalk.i64_in _ (by omega)
          cases b1 with
          | false =>
            have HF2 := Lib.hid (show (m : Int) = clampZ z low high by rw [← HF.out, ← hz]; rfl)
            clear hv0 hzm hz
            go_wp2
            go_ret
            exact ⟨ret_int HF2.out, hb4⟩
          | true =>
            have HF2 := Lib.hid (show -(m : Int) = clampZ z low high by rw [← HF.out, ← hz]; rfl)
            clear hv0 hzm hz
            go_wp2
            go_ret
            exact ⟨ret_int HF2.out, hb4⟩
        | succ j =>
          obtain rfl : zz = (j : Int) := by omega
          have hj : j < (dig m).length := by rw [HL1.out]; omega
          obtain ⟨bq, oq, ha1, z1⟩ := rowN_cell HM4.out hj
          subst ha1
          have hV := V_drop hj
          have hVm : V ((dig m).drop j) ≤ m := by have := V_drop_le (dig m) j; rw [HVM.out] at this; exact this
          have hd : (dig m)[j] < 65536 := HDG.out.at hj
          generalize (dig m)[j] = dd at *
          generalize hv1 : V ((dig m).drop (j + 1)) = v1 at *
          generalize hv2 : V ((dig m).drop j) = v2 at *
          have HV2 := Lib.hid hv2
          clear hv1 hv2
          have hw1 : IntKind.i64.wrap ((v1 : Int) * 65536) = (v1 : Int) * 65536 := IntWalk.i64_in _ (by omega)
          have hw2 : IntKind.i64.wrap ((v1 : Int) * 65536 + (dd : Int)) = (v1 : Int) * 65536 + (dd : Int) := IntWalk.i64_in _ (by omega)
          have HVE := Lib.hid (show (v1 : Int) * 65536 + (dd : Int) = (v2 : Int) by omega)
          clear hV hVm hj
          go_wp2
          go_roundg j
          case measure => omega
          case rel => exact ⟨j, _, rfl, by omega, by omega, Nat.le_refl _, by rw [HV2.out]; exact congrArg _ HVE.out, rfl⟩

end Go.Proofs.YtpmadgmjkljbgaaDoor
