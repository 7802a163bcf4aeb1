/- Part 13 of the proof. -/
import Derived.Test.YtpmadgmjkljbgaaDoorM12
import Derived.Test.YtpmadgmjkljbgaaDoorProg
import Derived.Ground.NamesProg
import Derived.Shelf.Unicode.ValidAny
import Derived.Shelf.Strings.Split

/- Walks: Value, number, integer, I, N, Number (values of numbers). -/
namespace Go.Proofs.YtpmadgmjkljbgaaDoor
open Go.RowKit

def ratFits (z : Int) (d : Nat) : Bool := decide ((dig z.natAbs).length ≤ 256) && decide ((dig d).length ≤ 256)
theorem RatFits_is (xv : Value) (z : Int) (d : Nat) (w : World) (hx : RatAt w xv z d) :
    Calls Tryd.prog 68 #[xv] w fun e w' => e = .returned (.bool (ratFits z d)) ∧ Below w.heap.size w w' := RatFits_any xv z d w hx
def zeroVl : Vl := ⟨0, false, [], false, [], ⟨#[]⟩, 0⟩
theorem natAt_noU {W W' : World} {M : Nat} {old : Array Value} {t : TypeId} {v : Value} {n : Nat} (h : NatAt W v n) (hM : W.heap[M]? = some (.cells old t (0, 0))) (hne : ∀ x ∈ old.toList, ∀ d : Nat, x ≠ .int .i64 d) (hk : ∀ k, k < W.heap.size → k ≠ M → W'.heap[k]? = W.heap[k]?) : NatAt W' v n := by
  unfold NatAt at h ⊢
  exact RowOf.other (old := old.toList) h (by simpa using hM) (fun x hx y => hne x hx y) hk

set_option maxRecDepth 100000 in
set_option maxHeartbeats 2000000 in
theorem ValueQ_any (xv : Value) (z : Int) (d : Nat) (w : World) (hx : RatAt w xv z d) (nz : (dig z.natAbs).length ≤ 1000000) (nd : (dig d).length ≤ 1000000) :
    Calls Tryd.prog 45 #[xv] w fun e w' => ∃ v', e = .returned (.tuple #[v', .bool (ratFits z d)]) ∧ (ratFits z d = true → VlAt w' v' (valQ z d)) ∧ (ratFits z d = false → VlAt w' v' zeroVl) ∧ Below w.heap.size w w' := by
  obtain ⟨b1, v1, u1, m, rfl, hm, hd, hz⟩ := hx
  have HR := Lib.hid (fun W (h : Below w.heap.size w W) => RatFits_is _ z d W ⟨b1, v1, u1, m, rfl, hm.below h, hd.below h, hz⟩)
  have HW := Lib.hid (fun W (h : Below w.heap.size w W) => WholeV_any _ z W ⟨b1, v1, m, rfl, hm.below h, hz⟩ nz)
  have HC := Lib.hid (fun W u (h : Below w.heap.size w W) (hu : NatAt W u 1) => Compare_any _ _ d 1 W (hd.below h) hu)
  have HD := Lib.hid hd
  have ND := Lib.hid nd
  obtain ⟨a1, c1, rfl⟩ := hm.slice
  obtain ⟨p1, r1, rfl⟩ := hd.slice
  clear hm hd nz nd hz
  generalize (dig m).length = l1 at *
  generalize hq1 : (dig d).length = q1 at HR HW HC HD
  clear hq1
  have hal := alloc2 w (.cells #[.bool b1, .slice a1 l1 c1, .slice p1 q1 r1] 43) (.cells #[.int .i64 0, .bool false, .slice none 0 0, .bool false, .slice none 0 0, .string ⟨#[]⟩, .int .i64 0] 26)
  go_enter Tryd.func45, Tryd.ntmps45
  go_upto_region 1 with fail
  generalize ((w.alloc (.cells #[.bool b1, .slice a1 l1 c1, .slice p1 q1 r1] 43)).alloc (.cells #[.int .i64 0, .bool false, .slice none 0 0, .bool false, .slice none 0 0, .string ⟨#[]⟩, .int .i64 0] 26)) = w1 at *
  obtain ⟨hb1, h1, h2⟩ := hal
  skip
  by_cases hfit : ratFits z d = true
  · have HF := Lib.hid hfit
    rw [hfit] at HR
    clear hfit
    go_wp2_with (refine wpL_load stRat h1 (by rfl) (by rfl) ?_)
    refine (HR.out w1 hb1).mono ?_
    rintro e w2 ⟨rfl, hb2⟩
    replace h1 := (hb2.block _ (box_lt h1)).trans h1
    replace h2 := (hb2.block _ (box_lt h2)).trans h2
    have d0 := box_cell h1 0
    have d1 := box_cell h1 1
    simp only [List.getElem?_toArray, List.getElem?_cons_zero, List.getElem?_cons_succ] at d0 d1
    go_wp2_with fail
    refine (HW.out w2 (ext_trans hb1 hb2)).mono ?_
    rintro e w3 ⟨v5, rfl, hV, hb3⟩
    replace h1 := (hb3.block _ (box_lt h1)).trans h1
    replace h2 := (hb3.block _ (box_lt h2)).trans h2
    obtain ⟨av, bv, rfl, hu5, hu6⟩ := hV
    unfold valZ at *
    simp only at hu5 hu6 ⊢
    have HU5a := Lib.hid hu5
    have HU6a := Lib.hid hu6
    obtain ⟨a5, c5, rfl, -⟩ := hu5
    obtain ⟨a6, c6, rfl, -⟩ := hu6
    generalize hl5 : (lim z.natAbs).length = l5 at *
    clear hl5
    obtain ⟨s5, hs5⟩ : ∃ s5, s5 = decide (z < 0) := ⟨_, rfl⟩
    rw [← hs5]
    have HS5 := Lib.hid hs5
    clear hs5
    generalize hl6 : ([] : List Nat).length = l6 at *
    clear hl6
    have hB4 : Bxs [(w.heap.size, (.cells #[.bool b1, .slice a1 l1 c1, .slice p1 q1 r1] 43)), (w.heap.size + 1, (.cells #[.int .i64 0, .bool false, .slice none 0 0, .bool false, .slice none 0 0, .string ⟨#[]⟩, .int .i64 0] 26)), (w3.heap.size, (.cells #[.int .i64 2, .bool s5, .slice a5 l5 c5, .bool false, .slice a6 l6 c6, .string ⟨#[]⟩, .int .i64 0] 26))] w (w3.alloc (.cells #[.int .i64 2, .bool s5, .slice a5 l5 c5, .bool false, .slice a6 l6 c6, .string ⟨#[]⟩, .int .i64 0] 26)) := ⟨ext_trans (ext_trans hb1 (ext_trans hb2 hb3)) (ext_alloc _ _), fun x hx => by
      simp only [List.mem_cons, List.not_mem_nil, or_false] at hx
      rcases hx with rfl | rfl | rfl
      · exact box_alloc h1 _
      · exact box_alloc h2 _
      · exact heap_new _ _⟩
    have HU5 := Lib.hid (show RowU (w3.alloc (.cells #[.int .i64 2, .bool s5, .slice a5 l5 c5, .bool false, .slice a6 l6 c6, .string ⟨#[]⟩, .int .i64 0] 26)).drew (.slice a5 l5 c5) (lim z.natAbs) from HU5a.out.below (ext_alloc w3 (.cells #[.int .i64 2, .bool s5, .slice a5 l5 c5, .bool false, .slice a6 l6 c6, .string ⟨#[]⟩, .int .i64 0] 26)).drew)
    have HU6 := Lib.hid (show RowU (w3.alloc (.cells #[.int .i64 2, .bool s5, .slice a5 l5 c5, .bool false, .slice a6 l6 c6, .string ⟨#[]⟩, .int .i64 0] 26)).drew (.slice a6 l6 c6) [] from HU6a.out.below (ext_alloc w3 (.cells #[.int .i64 2, .bool s5, .slice a5 l5 c5, .bool false, .slice a6 l6 c6, .string ⟨#[]⟩, .int .i64 0] 26)).drew)
    have hM6 : w.heap.size ≤ w3.heap.size := (ext_trans hb1 (ext_trans hb2 hb3)).size
    have hM7 : w.heap.size + 1 < w3.heap.size := box_lt h2
    clear h1 h2 HU5a HU6a d0 d1 hb1 hb2 hb3 HR HW
    by_cases hd1 : d = 1
    · have HX := Lib.hid (show valQ z d = ⟨2, s5, lim z.natAbs, false, [], ⟨#[]⟩, 0⟩ by unfold valQ valZ; rw [if_pos hd1, HS5.out])
      have HC0 : Hid ((cmpN d 1 != 0) = false) := by unfold Hid; subst hd1; rfl
      generalize cmpN d 1 = c at *
      clear hd1
      go_upto_region 4 with fail
      generalize hM6' : w3.heap.size = M6 at *
      clear hM6'
      generalize w3.alloc (.cells #[.int .i64 2, .bool s5, .slice a5 l5 c5, .bool false, .slice a6 l6 c6, .string ⟨#[]⟩, .int .i64 0] 26) = w4 at *
      have hBd := hB4.drew
      clear hB4
      refine wp_region_noPanic ?_
      refine wp_region_L (S := fun _ W => Bxs [(w.heap.size, (.cells #[.bool b1, .slice a1 l1 c1, .slice p1 q1 r1] 43)), (w.heap.size + 1, (.cells #[.int .i64 0, .bool false, .slice none 0 0, .bool false, .slice none 0 0, .string ⟨#[]⟩, .int .i64 0] 26)), (M6, (.cells #[.int .i64 2, .bool s5, .slice a5 l5 c5, .bool false, .slice a6 l6 c6, .string ⟨#[]⟩, .int .i64 0] 26))] w W) (by kernel_rfl) ?_
      refine wpAnyL_take (T := fun _ => True) (i := 0) (v := ?vvva0) rfl (by kernel_rfl) (by kernel_rfl) (by kernel_rfl) (fun _ _ _ h => h) (fun _ _ => Iff.rfl) (fun _ _ _ _ _ => trivial) (Closed.of_B (by kernel_rfl)) (Or.inl ⟨by kernel_rfl, ?hyva0⟩) hBd ?restva0
      case hyva0 => (intro w _; go_simp; with_reducible rfl)
      go_simp
      refine wpAnyL_take (T := fun W => Bxs [(w.heap.size, (.cells #[.bool b1, .slice a1 l1 c1, .slice p1 q1 r1] 43)), (w.heap.size + 1, (.cells #[.int .i64 0, .bool false, .slice none 0 0, .bool false, .slice none 0 0, .string ⟨#[]⟩, .int .i64 0] 26)), (M6, (.cells #[.int .i64 2, .bool s5, .slice a5 l5 c5, .bool false, .slice a6 l6 c6, .string ⟨#[]⟩, .int .i64 0] 26))] w W) (i := 1) (v := ?vvva1) rfl (by kernel_rfl) (by kernel_rfl) (by kernel_rfl) (fun _ _ _ h => h) (fun _ _ => Iff.rfl) (fun _ _ _ _ h => h) (Closed.of_B (by kernel_rfl)) (Or.inl ⟨by kernel_rfl, ?hyva1⟩) hBd ?restva1
      case hyva1 =>
        intro W hW
        have hx0 := hW.2 ((w.heap.size, (.cells #[.bool b1, .slice a1 l1 c1, .slice p1 q1 r1] 43)) : Nat × Obj) (by simp)
        have dx0x2 := box_cell hx0 2
        simp only [List.getElem?_toArray, List.getElem?_cons_zero, List.getElem?_cons_succ] at dx0x2
        clear hW
        go_simp; with_reducible rfl
      go_simp
      refine wpAnyL_rows (R := fun i v _ W => match i with | 2 => NatAt W v 1 | 3 => v = .int .i64 c | 4 => v = .bool false | _ => True) (I := fun _ _ W => Bxs [(w.heap.size, (.cells #[.bool b1, .slice a1 l1 c1, .slice p1 q1 r1] 43)), (w.heap.size + 1, (.cells #[.int .i64 0, .bool false, .slice none 0 0, .bool false, .slice none 0 0, .string ⟨#[]⟩, .int .i64 0] 26)), (M6, (.cells #[.int .i64 2, .bool s5, .slice a5 l5 c5, .bool false, .slice a6 l6 c6, .string ⟨#[]⟩, .int .i64 0] 26))] w W ∧ RowU W (.slice a5 l5 c5) (lim z.natAbs) ∧ RowU W (.slice a6 l6 c6) []) [((2, some 14, []), []), ((3, some 15, [2]), [(2, some 14, [])]), ((4, some 16, [3]), [(3, some 15, [2])])] (by kernel_rfl) (by decide) (fun _ _ _ h => h.1) (fun _ => ⟨hBd, HU5.out, HU6.out⟩) ?tabva ?finva
      case tabva =>
        refine TabAll.cons rfl (by kernel_rfl) (fun L vs W hsz hcl hn hd hdn hI K hK => ?_) ?_
        · simp only [putsD, Act.put, List.setIfInBounds_toArray, List.set_cons_zero, List.set_cons_succ] at hK ⊢
          clear hd hdn
          go_simp
          refine (Small_any 1 _ (by omega)).mono ?_
          rintro e W3 ⟨v', rfl, hv, hb3⟩
          refine hK _ v' _ (by rfl) (fun i u l hij hL h => ?_) hv ⟨hI.1.below hb3, hI.2.1.below hb3, hI.2.2.below hb3⟩
          · match i, hij, hL, h with
            | 2, _, _, h => exact NatAt.below h hb3
            | 3, _, _, h => exact h
            | 4, _, _, h => exact h
            | 0, _, _, _ | 1, _, _, _ | _ + 5, _, _, _ => trivial
        refine TabAll.cons rfl (by kernel_rfl) (fun L vs W hsz hcl hn hd hdn hI K hK => ?_) ?_
        · simp only [putsD, Act.put, List.setIfInBounds_toArray, List.set_cons_zero, List.set_cons_succ] at hK ⊢
          have r2 := hd.1
          generalize hv2 : vs 2 = v2 at *
          have HV2 := Lib.hid hv2
          clear hv2
          clear hd hdn
          have q2 : NatAt W v2 1 := r2
          clear r2
          go_simp
          refine (HC.out W _ hI.1.1 q2).mono ?_
          rintro e W3 ⟨rfl, hb3⟩
          refine hK _ (.int .i64 c) _ (by rfl) (fun i u l hij hL h => ?_) rfl ⟨hI.1.below hb3, hI.2.1.below hb3, hI.2.2.below hb3⟩
          · match i, hij, hL, h with
            | 2, _, _, h => exact NatAt.below h hb3
            | 3, _, _, h => exact h
            | 4, _, _, h => exact h
            | 0, _, _, _ | 1, _, _, _ | _ + 5, _, _, _ => trivial
        refine TabAll.cons rfl (by kernel_rfl) (fun L vs W hsz hcl hn hd hdn hI K hK => ?_) ?_
        · simp only [putsD, Act.put, List.setIfInBounds_toArray, List.set_cons_zero, List.set_cons_succ] at hK ⊢
          have r3 := hd.1
          generalize hv3 : vs 3 = v3 at *
          have HV3 := Lib.hid hv3
          clear hv3
          clear hd hdn
          have q3 : v3 = .int .i64 c := r3
          clear r3
          subst q3
          have hc0' := HC0.out
          go_simp
          refine hK _ (.bool false) _ (by rfl) (fun i u l hij hL h => h) rfl hI
        exact TabAll.nil
      case finva =>
        intro vs W5 hd L hsz hall hI
        have r2 := hd.1
        have r3 := hd.2.1
        have r4 := hd.2.2.1
        simp only [List.map_cons, List.map_nil, putsD, Act.put, List.setIfInBounds_toArray, List.set_cons_zero, List.set_cons_succ]
        generalize vs 2 = v2 at *
        generalize vs 3 = v3 at *
        generalize vs 4 = v4 at *
        clear hd hall hsz
        refine NoPanic.normal ?_
        have q4 : v4 = .bool false := r4
        clear r2 r3 r4
        subst q4
        have HB5 := Lib.hid hI.1
        have HV5 := Lib.hid hI.2.1
        have HV6 := Lib.hid hI.2.2
        clear hI hBd HU5 HU6
        have e0 := HB5.out.2 (w.heap.size, (.cells #[.bool b1, .slice a1 l1 c1, .slice p1 q1 r1] 43)) (by simp)
        have e1 := HB5.out.2 (w.heap.size + 1, (.cells #[.int .i64 0, .bool false, .slice none 0 0, .bool false, .slice none 0 0, .string ⟨#[]⟩, .int .i64 0] 26)) (by simp)
        have e6 := HB5.out.2 (M6, (.cells #[.int .i64 2, .bool s5, .slice a5 l5 c5, .bool false, .slice a6 l6 c6, .string ⟨#[]⟩, .int .i64 0] 26)) (by simp)
        go_wp2_with (first | (refine wpL_load stVal e6 (by rfl) (by rfl) ?_) | (refine wpL_store (cells := #[.int .i64 2, .bool s5, .slice a5 l5 c5, .bool false, .slice a6 l6 c6, .string ⟨#[]⟩, .int .i64 0]) stVal e1 (by rfl) (by rfl) (by rfl) (by rfl) (by rfl) ?_))
        have hs := setRow_facts e1 #[.int .i64 2, .bool s5, .slice a5 l5 c5, .bool false, .slice a6 l6 c6, .string ⟨#[]⟩, .int .i64 0]
        exact bodyPost_ret (results_cell_tmp rfl stVal rfl hs.1 rfl) rfl ⟨_, (by rw [HF.out]; rfl), fun _ => by rw [HX.out]; exact ⟨_, _, rfl, RowU.other HV5.out e1 noU_zeroV hs.2.1, RowU.other HV6.out e1 noU_zeroV hs.2.1⟩, fun h => (by rw [HF.out] at h; cases h), hs.2.2 _ _ (Nat.le_succ _) HB5.out.1⟩
    · have HX := Lib.hid (show valQ z d = ⟨3, s5, lim z.natAbs, false, lim d, ⟨#[]⟩, 0⟩ by unfold valQ; rw [if_neg hd1, HS5.out])
      have HC0 : Hid ((cmpN d 1 != 0) = true) := by unfold Hid cmpN; simp; split <;> (try split) <;> omega
      generalize cmpN d 1 = c at *
      clear hd1
      go_upto_region 4 with fail
      generalize hM6' : w3.heap.size = M6 at *
      clear hM6'
      generalize w3.alloc (.cells #[.int .i64 2, .bool s5, .slice a5 l5 c5, .bool false, .slice a6 l6 c6, .string ⟨#[]⟩, .int .i64 0] 26) = w4 at *
      have hBd := hB4.drew
      clear hB4
      refine wp_region_noPanic ?_
      refine wp_region_L (S := fun _ W => Bxs [(w.heap.size, (.cells #[.bool b1, .slice a1 l1 c1, .slice p1 q1 r1] 43)), (w.heap.size + 1, (.cells #[.int .i64 0, .bool false, .slice none 0 0, .bool false, .slice none 0 0, .string ⟨#[]⟩, .int .i64 0] 26)), (M6, (.cells #[.int .i64 2, .bool s5, .slice a5 l5 c5, .bool false, .slice a6 l6 c6, .string ⟨#[]⟩, .int .i64 0] 26))] w W) (by kernel_rfl) ?_
      refine wpAnyL_take (T := fun _ => True) (i := 0) (v := ?vvvb0) rfl (by kernel_rfl) (by kernel_rfl) (by kernel_rfl) (fun _ _ _ h => h) (fun _ _ => Iff.rfl) (fun _ _ _ _ _ => trivial) (Closed.of_B (by kernel_rfl)) (Or.inl ⟨by kernel_rfl, ?hyvb0⟩) hBd ?restvb0
      case hyvb0 => (intro w _; go_simp; with_reducible rfl)
      go_simp
      refine wpAnyL_take (T := fun W => Bxs [(w.heap.size, (.cells #[.bool b1, .slice a1 l1 c1, .slice p1 q1 r1] 43)), (w.heap.size + 1, (.cells #[.int .i64 0, .bool false, .slice none 0 0, .bool false, .slice none 0 0, .string ⟨#[]⟩, .int .i64 0] 26)), (M6, (.cells #[.int .i64 2, .bool s5, .slice a5 l5 c5, .bool false, .slice a6 l6 c6, .string ⟨#[]⟩, .int .i64 0] 26))] w W) (i := 1) (v := ?vvvb1) rfl (by kernel_rfl) (by kernel_rfl) (by kernel_rfl) (fun _ _ _ h => h) (fun _ _ => Iff.rfl) (fun _ _ _ _ h => h) (Closed.of_B (by kernel_rfl)) (Or.inl ⟨by kernel_rfl, ?hyvb1⟩) hBd ?restvb1
      case hyvb1 =>
        intro W hW
        have hx0 := hW.2 ((w.heap.size, (.cells #[.bool b1, .slice a1 l1 c1, .slice p1 q1 r1] 43)) : Nat × Obj) (by simp)
        have dx0x2 := box_cell hx0 2
        simp only [List.getElem?_toArray, List.getElem?_cons_zero, List.getElem?_cons_succ] at dx0x2
        clear hW
        go_simp; with_reducible rfl
      go_simp
      refine wpAnyL_rows (R := fun i v _ W => match i with | 2 => NatAt W v 1 | 3 => v = .int .i64 c | 4 => v = .bool true | _ => True) (I := fun _ _ W => Bxs [(w.heap.size, (.cells #[.bool b1, .slice a1 l1 c1, .slice p1 q1 r1] 43)), (w.heap.size + 1, (.cells #[.int .i64 0, .bool false, .slice none 0 0, .bool false, .slice none 0 0, .string ⟨#[]⟩, .int .i64 0] 26)), (M6, (.cells #[.int .i64 2, .bool s5, .slice a5 l5 c5, .bool false, .slice a6 l6 c6, .string ⟨#[]⟩, .int .i64 0] 26))] w W ∧ RowU W (.slice a5 l5 c5) (lim z.natAbs) ∧ RowU W (.slice a6 l6 c6) []) [((2, some 14, []), []), ((3, some 15, [2]), [(2, some 14, [])]), ((4, some 16, [3]), [(3, some 15, [2])])] (by kernel_rfl) (by decide) (fun _ _ _ h => h.1) (fun _ => ⟨hBd, HU5.out, HU6.out⟩) ?tabvb ?finvb
      case tabvb =>
        refine TabAll.cons rfl (by kernel_rfl) (fun L vs W hsz hcl hn hd hdn hI K hK => ?_) ?_
        · simp only [putsD, Act.put, List.setIfInBounds_toArray, List.set_cons_zero, List.set_cons_succ] at hK ⊢
          clear hd hdn
          go_simp
          refine (Small_any 1 _ (by omega)).mono ?_
          rintro e W3 ⟨v', rfl, hv, hb3⟩
          refine hK _ v' _ (by rfl) (fun i u l hij hL h => ?_) hv ⟨hI.1.below hb3, hI.2.1.below hb3, hI.2.2.below hb3⟩
          · match i, hij, hL, h with
            | 2, _, _, h => exact NatAt.below h hb3
            | 3, _, _, h => exact h
            | 4, _, _, h => exact h
            | 0, _, _, _ | 1, _, _, _ | _ + 5, _, _, _ => trivial
        refine TabAll.cons rfl (by kernel_rfl) (fun L vs W hsz hcl hn hd hdn hI K hK => ?_) ?_
        · simp only [putsD, Act.put, List.setIfInBounds_toArray, List.set_cons_zero, List.set_cons_succ] at hK ⊢
          have r2 := hd.1
          generalize hv2 : vs 2 = v2 at *
          have HV2 := Lib.hid hv2
          clear hv2
          clear hd hdn
          have q2 : NatAt W v2 1 := r2
          clear r2
          go_simp
          refine (HC.out W _ hI.1.1 q2).mono ?_
          rintro e W3 ⟨rfl, hb3⟩
          refine hK _ (.int .i64 c) _ (by rfl) (fun i u l hij hL h => ?_) rfl ⟨hI.1.below hb3, hI.2.1.below hb3, hI.2.2.below hb3⟩
          · match i, hij, hL, h with
            | 2, _, _, h => exact NatAt.below h hb3
            | 3, _, _, h => exact h
            | 4, _, _, h => exact h
            | 0, _, _, _ | 1, _, _, _ | _ + 5, _, _, _ => trivial
        refine TabAll.cons rfl (by kernel_rfl) (fun L vs W hsz hcl hn hd hdn hI K hK => ?_) ?_
        · simp only [putsD, Act.put, List.setIfInBounds_toArray, List.set_cons_zero, List.set_cons_succ] at hK ⊢
          have r3 := hd.1
          generalize hv3 : vs 3 = v3 at *
          have HV3 := Lib.hid hv3
          clear hv3
          clear hd hdn
          have q3 : v3 = .int .i64 c := r3
          clear r3
          subst q3
          have hc0' := HC0.out
          go_simp
          refine hK _ (.bool true) _ (by rfl) (fun i u l hij hL h => h) rfl hI
        exact TabAll.nil
      case finvb =>
        intro vs W5 hd L hsz hall hI
        have r2 := hd.1
        have r3 := hd.2.1
        have r4 := hd.2.2.1
        simp only [List.map_cons, List.map_nil, putsD, Act.put, List.setIfInBounds_toArray, List.set_cons_zero, List.set_cons_succ]
        generalize vs 2 = v2 at *
        generalize vs 3 = v3 at *
        generalize vs 4 = v4 at *
        clear hd hall hsz
        refine NoPanic.normal ?_
        have q4 : v4 = .bool true := r4
        clear r2 r3 r4
        subst q4
        have HB5 := Lib.hid hI.1
        have HV5 := Lib.hid hI.2.1
        have HV6 := Lib.hid hI.2.2
        clear hI hBd HU5 HU6
        have e0 := HB5.out.2 (w.heap.size, (.cells #[.bool b1, .slice a1 l1 c1, .slice p1 q1 r1] 43)) (by simp)
        have e1 := HB5.out.2 (w.heap.size + 1, (.cells #[.int .i64 0, .bool false, .slice none 0 0, .bool false, .slice none 0 0, .string ⟨#[]⟩, .int .i64 0] 26)) (by simp)
        have e6 := HB5.out.2 (M6, (.cells #[.int .i64 2, .bool s5, .slice a5 l5 c5, .bool false, .slice a6 l6 c6, .string ⟨#[]⟩, .int .i64 0] 26)) (by simp)
        have HLM := Lib.hid (Limbs_any _ d W5 (HD.out.below HB5.out.1) (by have := ND.out; omega))
        have d2 := box_cell e0 2
        simp only [List.getElem?_toArray, List.getElem?_cons_zero, List.getElem?_cons_succ] at d2
        go_wp2_with fail
        refine HLM.out.mono ?_
        rintro e w6 ⟨v7, rfl, hU7, hb6⟩
        have HU7 := Lib.hid hU7
        obtain ⟨a7, c7, rfl, -⟩ := hU7
        generalize (lim d).length = l7 at *
        clear d2
        replace e0 := (hb6.block _ (box_lt e0)).trans e0
        replace e1 := (hb6.block _ (box_lt e1)).trans e1
        replace e6 := (hb6.block _ (box_lt e6)).trans e6
        have g0 := box_cell e6 0
        have g3 := box_cell e6 3
        have g4 := box_cell e6 4
        have f0 := box_frozen e6 0
        have f3 := box_frozen e6 3
        have f4 := box_frozen e6 4
        simp only [List.getElem?_toArray, List.getElem?_cons_zero, List.getElem?_cons_succ] at g0 g3 g4
        have hs6 : (((w6.setCell ⟨M6, 0, none⟩ (.int .i64 3)).setCell ⟨M6, 3, none⟩ (.bool false)).setCell ⟨M6, 4, none⟩ (.slice a7 l7 c7)).heap[M6]? = some (.cells #[.int .i64 3, .bool s5, .slice a5 l5 c5, .bool false, .slice a7 l7 c7, .string ⟨#[]⟩, .int .i64 0] 26 (0, 0)) := by simp [World.setCell, Array.getElem?_modify, e6]
        have hk6 : ∀ k, k < w6.heap.size → k ≠ M6 → (((w6.setCell ⟨M6, 0, none⟩ (.int .i64 3)).setCell ⟨M6, 3, none⟩ (.bool false)).setCell ⟨M6, 4, none⟩ (.slice a7 l7 c7)).heap[k]? = w6.heap[k]? := fun k _ hk => by simp [World.setCell, Array.getElem?_modify, hk.symm]
        have e1' := (hk6 (w.heap.size + 1) (box_lt e1) (by omega)).trans e1
        have hno6 : NoU [.int .i64 2, .bool s5, .slice a5 l5 c5, .bool false, .slice a6 l6 c6, .string ⟨#[]⟩, .int .i64 0] := by intro x hx d'; simp only [List.mem_cons, List.not_mem_nil, or_false] at hx; rcases hx with rfl | rfl | rfl | rfl | rfl | rfl | rfl <;> simp
        have HV7 := Lib.hid (RowU.other (HV5.out.below hb6) e6 hno6 hk6)
        have HU8 := Lib.hid (RowU.other HU7.out e6 hno6 hk6)
        have HBF := Lib.hid ((((ext_trans HB5.out.1 hb6).setCell (p := ⟨M6, 0, none⟩) hM6 (.int .i64 3)).setCell (p := ⟨M6, 3, none⟩) hM6 (.bool false)).setCell (p := ⟨M6, 4, none⟩) hM6 (.slice a7 l7 c7))
        clear e1 e6 hk6 hno6 e0
        go_upto_region 6 with fail
        generalize (((w6.setCell ⟨M6, 0, none⟩ (.int .i64 3)).setCell ⟨M6, 3, none⟩ (.bool false)).setCell ⟨M6, 4, none⟩ (.slice a7 l7 c7)) = w7 at *
        clear g0 g3 g4 f0 f3 f4
        go_wp2_with (first | (refine wpL_load stVal hs6 (by rfl) (by rfl) ?_) | (refine wpL_store (cells := #[.int .i64 3, .bool s5, .slice a5 l5 c5, .bool false, .slice a7 l7 c7, .string ⟨#[]⟩, .int .i64 0]) stVal e1' (by rfl) (by rfl) (by rfl) (by rfl) (by rfl) ?_))
        have hs := setRow_facts e1' #[.int .i64 3, .bool s5, .slice a5 l5 c5, .bool false, .slice a7 l7 c7, .string ⟨#[]⟩, .int .i64 0]
        exact bodyPost_ret (results_cell_tmp rfl stVal rfl hs.1 rfl) rfl ⟨_, (by rw [HF.out]; rfl), fun _ => by rw [HX.out]; exact ⟨_, _, rfl, RowU.other HV7.out e1' noU_zeroV hs.2.1, RowU.other HU8.out e1' noU_zeroV hs.2.1⟩, fun h => (by rw [HF.out] at h; cases h), hs.2.2 _ _ (Nat.le_succ _) HBF.out⟩
  · have hfit0 : ratFits z d = false := by simpa using hfit
    have HF := Lib.hid hfit0
    rw [hfit0] at HR
    clear hfit hfit0
    go_wp2_with (refine wpL_load stRat h1 (by rfl) (by rfl) ?_)
    refine (HR.out w1 hb1).mono ?_
    rintro e w2 ⟨rfl, hb2⟩
    replace h1 := (hb2.block _ (box_lt h1)).trans h1
    replace h2 := (hb2.block _ (box_lt h2)).trans h2
    go_wp2_with (refine wpL_store (cells := #[.int .i64 0, .bool false, .slice none 0 0, .bool false, .slice none 0 0, .string ⟨#[]⟩, .int .i64 0]) stVal h2 (by rfl) (by rfl) (by rfl) (by rfl) (by rfl) ?_)
    have hs := setRow_facts h2 #[.int .i64 0, .bool false, .slice none 0 0, .bool false, .slice none 0 0, .string ⟨#[]⟩, .int .i64 0]
    exact bodyPost_ret (results_cell_tmp rfl stVal rfl hs.1 rfl) rfl ⟨_, (by rw [HF.out]; rfl), fun h => (by rw [HF.out] at h; cases h), fun _ => ⟨_, _, rfl, RowOf.nil _ _, RowOf.nil _ _⟩, hs.2.2 _ _ (Nat.le_succ _) (ext_trans hb1 hb2)⟩

end Go.Proofs.YtpmadgmjkljbgaaDoor

/- Walks: number, integer, I, N, Number. -/
namespace Go.Proofs.YtpmadgmjkljbgaaDoor
open Go.RowKit

theorem intAt_cells {W : World} {v : Value} {z : Int} (h : IntAt W v z) : ∃ cs : List Value, v = .agg cs.toArray ∧ cs.length = 2 ∧ cs.all (·.oneCell') = true := by
  obtain ⟨b, nv, k, rfl, h2, _⟩ := h
  obtain ⟨a, c, rfl⟩ := h2.slice
  exact ⟨[_, _], rfl, rfl, by simp [Value.oneCell']⟩
theorem ratAt_cells {W : World} {v : Value} {z : Int} {d : Nat} (h : RatAt W v z d) : ∃ cs : List Value, v = .agg cs.toArray ∧ cs.length = 3 ∧ cs.all (·.oneCell') = true := by
  obtain ⟨b, nv, dv, k, rfl, h2, h3, _⟩ := h
  obtain ⟨a, c, rfl⟩ := h2.slice
  obtain ⟨a, c, rfl⟩ := h3.slice
  exact ⟨[_, _, _], rfl, rfl, by simp [Value.oneCell']⟩
theorem stepOf_cells {W : World} {v : Value} {x : Vl} (h : StepOf W v x) : ∃ cs : List Value, v = .agg cs.toArray ∧ cs.length = 18 ∧ cs.all (·.oneCell') = true := by
  obtain ⟨cs, h1, h2, h3, _⟩ := h.cells
  exact ⟨cs, h1, h2, h3⟩
theorem vlAt_cells {W : World} {v : Value} {x : Vl} (h : VlAt W v x) : ∃ cs : List Value, v = .agg cs.toArray ∧ cs.length = 7 ∧ cs.all (·.oneCell') = true := by
  obtain ⟨cs, h1, h2, h3, _⟩ := h.cells
  exact ⟨cs, h1, h2, h3⟩
theorem noInt_zeroI : NoInt [.bool false, .slice none 0 0] := by
  intro x hx k d
  simp only [List.mem_cons, List.not_mem_nil, or_false] at hx
  rcases hx with rfl | rfl <;> simp
theorem noInt_zeroR : NoInt [.bool false, .slice none 0 0, .slice none 0 0] := by
  intro x hx k d
  simp only [List.mem_cons, List.not_mem_nil, or_false] at hx
  rcases hx with rfl | rfl | rfl <;> simp
def numVl (z : Int) (d : Nat) : Vl := if ratFits z d then valQ z d else zeroVl
theorem tooLarge_step (W : World) (txt : ByteArray) (c : Int) : StepOf W (.agg #[.int .i64 1, .int .i64 0, .bool false, .slice none 0 0, .bool false, .slice none 0 0, .string ⟨#[]⟩, .int .i64 0, .int .i64 c, .string txt, .int .i64 0, .bool false, .slice none 0 0, .bool false, .slice none 0 0, .string ⟨#[]⟩, .int .i64 0, .slice none 0 0]) zeroVl := ⟨_, _, _, _, _, _, _, _, _, _, _, _, _, _, _, _, _, _, _, rfl, RowOf.nil _ _, RowOf.nil _ _⟩

set_option maxRecDepth 100000 in
set_option maxHeartbeats 2000000 in
theorem number_any (xv : Value) (z : Int) (d : Nat) (w : World) (hx : RatAt w xv z d) (nz : (dig z.natAbs).length ≤ 1000000) (nd : (dig d).length ≤ 1000000) :
    Calls Tryd.prog 21 #[xv] w fun e w' => ∃ v', e = .returned v' ∧ StepOf w' v' (numVl z d) ∧ Below w.heap.size w w' := by
  have HV := Lib.hid (fun W (h : Below w.heap.size w W) => ValueQ_any xv z d W (hx.below h) nz nd)
  obtain ⟨b1, v1, u1, m, rfl, hm, hd, hz⟩ := hx
  obtain ⟨a1, c1, rfl⟩ := hm.slice
  obtain ⟨p1, r1, rfl⟩ := hd.slice
  clear hm hd nz nd hz
  generalize (dig m).length = l1 at *
  generalize (dig d).length = q1 at *
  have hal := alloc2 w (.cells #[.bool b1, .slice a1 l1 c1, .slice p1 q1 r1] 43) (.cells #[.int .i64 0, .int .i64 0, .bool false, .slice none 0 0, .bool false, .slice none 0 0, .string ⟨#[]⟩, .int .i64 0, .int .i64 0, .string ⟨#[]⟩, .int .i64 0, .bool false, .slice none 0 0, .bool false, .slice none 0 0, .string ⟨#[]⟩, .int .i64 0, .slice none 0 0] 33)
  go_enter Tryd.func21, Tryd.ntmps21
  go_upto_region 1 with fail
  generalize ((w.alloc (.cells #[.bool b1, .slice a1 l1 c1, .slice p1 q1 r1] 43)).alloc (.cells #[.int .i64 0, .int .i64 0, .bool false, .slice none 0 0, .bool false, .slice none 0 0, .string ⟨#[]⟩, .int .i64 0, .int .i64 0, .string ⟨#[]⟩, .int .i64 0, .bool false, .slice none 0 0, .bool false, .slice none 0 0, .string ⟨#[]⟩, .int .i64 0, .slice none 0 0] 33)) = w1 at *
  obtain ⟨hb1, h1, h2⟩ := hal
  go_wp2_with (refine wpL_load stRat h1 (by rfl) (by rfl) ?_)
  refine (HV.out w1 hb1).mono ?_
  rintro e w2 ⟨v5, rfl, hV1, hV2, hb2⟩
  replace h1 := (hb2.block _ (box_lt h1)).trans h1
  replace h2 := (hb2.block _ (box_lt h2)).trans h2
  have h5 := heap_new w2 (.cells #[.int .i64 0, .bool false, .slice none 0 0, .bool false, .slice none 0 0, .string ⟨#[]⟩, .int .i64 0] 26 (0, 0))
  have h2' := box_alloc h2 (.cells #[.int .i64 0, .bool false, .slice none 0 0, .bool false, .slice none 0 0, .string ⟨#[]⟩, .int .i64 0] 26 (0, 0))
  have hb3 := ext_trans (ext_trans hb1 hb2) (ext_alloc w2 (.cells #[.int .i64 0, .bool false, .slice none 0 0, .bool false, .slice none 0 0, .string ⟨#[]⟩, .int .i64 0] 26 (0, 0)))
  have hne : w.heap.size + 1 ≠ w2.heap.size := by have := box_lt h2; omega
  have hle2 : w.heap.size ≤ w2.heap.size := (ext_trans hb1 hb2).size
  cases hfit : ratFits z d with
  | true =>
    have hV := hV1 hfit
    have HX := Lib.hid (show numVl z d = valQ z d by unfold numVl; rw [if_pos hfit])
    have HSV := Lib.hid (hV.below (ext_alloc w2 (.cells #[.int .i64 0, .bool false, .slice none 0 0, .bool false, .slice none 0 0, .string ⟨#[]⟩, .int .i64 0] 26 (0, 0))))
    obtain ⟨cs, rfl, hlen, hone⟩ := vlAt_cells hV
    clear hV hV1 hV2 hfit h1 h2 hb1 hb2 HV
    go_upto_region 4 with (refine wpL_store (cells := cs.toArray) stVal h5 (by rfl) (by simpa using hlen) (by simpa using hone) (by rfl) (by rfl) ?_)
    have hs5 := setRow_facts h5 cs.toArray
    have h6 := (hs5.2.1 _ (box_lt h2') hne).trans h2'
    have HV6 := Lib.hid (VlAt.other HSV.out h5 noU_zeroV hs5.2.1)
    have hb6 := hs5.2.2 w w.heap.size hle2 hb3
    generalize (w2.alloc (.cells #[.int .i64 0, .bool false, .slice none 0 0, .bool false, .slice none 0 0, .string ⟨#[]⟩, .int .i64 0] 26 (0, 0))).setRow w2.heap.size cs.toArray = w6 at *
    have H5 := Lib.hid hs5.1
    clear hs5 h5 h2' HSV hb3
    refine wp_region_lit ?_
    refine wpL_load stVal H5.out (by simpa using hlen) (by rfl) ?_
    go_wp2_with fail
    refine (Result_any _ _ w6 HV6.out).mono ?_
    rintro e w7 ⟨v7, rfl, hS, hb7⟩
    replace h6 := (hb7.block _ (box_lt h6)).trans h6
    rw [← HX.out] at hS
    have HSV := Lib.hid hS
    obtain ⟨cs, rfl, hlen, hone⟩ := stepOf_cells hS
    clear hS
    go_wp2_with (refine wpL_store (cells := cs.toArray) stStep h6 (by rfl) (by simpa using hlen) (by simpa using hone) (by rfl) (by rfl) ?_)
    have hs := setRow_facts h6 cs.toArray
    exact bodyPost_ret (results_cell rfl stStep rfl hs.1 (by simpa using hlen)) rfl ⟨_, rfl, StepOf.other HSV.out h6 noU_zero hs.2.1, hs.2.2 _ _ (Nat.le_succ _) (ext_trans hb6 hb7)⟩
  | false =>
    have hV := hV2 hfit
    have HX := Lib.hid (show numVl z d = zeroVl by unfold numVl; rw [if_neg (by rw [hfit]; decide)])
    obtain ⟨cs, rfl, hlen, hone⟩ := vlAt_cells hV
    clear hV hV1 hV2 hfit h1 h2 hb1 hb2 HV
    go_upto_region 3 with (refine wpL_store (cells := cs.toArray) stVal h5 (by rfl) (by simpa using hlen) (by simpa using hone) (by rfl) (by rfl) ?_)
    have hs5 := setRow_facts h5 cs.toArray
    have h6 := (hs5.2.1 _ (box_lt h2') hne).trans h2'
    have hb6 := hs5.2.2 w w.heap.size hle2 hb3
    generalize (w2.alloc (.cells #[.int .i64 0, .bool false, .slice none 0 0, .bool false, .slice none 0 0, .string ⟨#[]⟩, .int .i64 0] 26 (0, 0))).setRow w2.heap.size cs.toArray = w6 at *
    clear hs5 h5 h2' hb3
    have HT := Lib.hid (TooLarge_any w6)
    go_wp2_with fail
    refine HT.out.mono ?_
    rintro e w7 ⟨rfl, hb7⟩
    replace h6 := (hb7.block _ (box_lt h6)).trans h6
    have hS := tooLarge_step w7 ⟨#[118, 97, 108, 117, 101, 32, 105, 115, 32, 116, 111, 111, 32, 108, 97, 114, 103, 101]⟩ 42
    rw [← HX.out] at hS
    go_wp2_with (refine wpL_store (cells := #[.int .i64 1, .int .i64 0, .bool false, .slice none 0 0, .bool false, .slice none 0 0, .string ⟨#[]⟩, .int .i64 0, .int .i64 42, .string ⟨#[118, 97, 108, 117, 101, 32, 105, 115, 32, 116, 111, 111, 32, 108, 97, 114, 103, 101]⟩, .int .i64 0, .bool false, .slice none 0 0, .bool false, .slice none 0 0, .string ⟨#[]⟩, .int .i64 0, .slice none 0 0]) stStep h6 (by rfl) (by rfl) (by rfl) (by rfl) (by rfl) ?_)
    have hs := setRow_facts h6 #[.int .i64 1, .int .i64 0, .bool false, .slice none 0 0, .bool false, .slice none 0 0, .string ⟨#[]⟩, .int .i64 0, .int .i64 42, .string ⟨#[118, 97, 108, 117, 101, 32, 105, 115, 32, 116, 111, 111, 32, 108, 97, 114, 103, 101]⟩, .int .i64 0, .bool false, .slice none 0 0, .bool false, .slice none 0 0, .string ⟨#[]⟩, .int .i64 0, .slice none 0 0]
    exact bodyPost_ret (results_cell rfl stStep rfl hs.1 rfl) rfl ⟨_, rfl, StepOf.other hS h6 noU_zero hs.2.1, hs.2.2 _ _ (Nat.le_succ _) (ext_trans hb6 hb7)⟩

set_option maxRecDepth 100000 in
set_option maxHeartbeats 2000000 in
theorem integer_any (xv : Value) (z : Int) (w : World) (hx : IntAt w xv z) (nz : (dig z.natAbs).length ≤ 1000000) :
    Calls Tryd.prog 59 #[xv] w fun e w' => ∃ v', e = .returned v' ∧ StepOf w' v' (numVl z 1) ∧ Below w.heap.size w w' := by
  have HW := Lib.hid (fun W (h : Below w.heap.size w W) => Whole_any xv z W (hx.below h))
  obtain ⟨b1, v1, m, rfl, hm, hz⟩ := hx
  obtain ⟨a1, c1, rfl⟩ := hm.slice
  clear hm hz
  generalize (dig m).length = l1 at *
  have hal := alloc2 w (.cells #[.bool b1, .slice a1 l1 c1] 41) (.cells #[.int .i64 0, .int .i64 0, .bool false, .slice none 0 0, .bool false, .slice none 0 0, .string ⟨#[]⟩, .int .i64 0, .int .i64 0, .string ⟨#[]⟩, .int .i64 0, .bool false, .slice none 0 0, .bool false, .slice none 0 0, .string ⟨#[]⟩, .int .i64 0, .slice none 0 0] 33)
  go_enter Tryd.func59, Tryd.ntmps59
  go_upto_region 1 with fail
  generalize ((w.alloc (.cells #[.bool b1, .slice a1 l1 c1] 41)).alloc (.cells #[.int .i64 0, .int .i64 0, .bool false, .slice none 0 0, .bool false, .slice none 0 0, .string ⟨#[]⟩, .int .i64 0, .int .i64 0, .string ⟨#[]⟩, .int .i64 0, .bool false, .slice none 0 0, .bool false, .slice none 0 0, .string ⟨#[]⟩, .int .i64 0, .slice none 0 0] 33)) = w1 at *
  obtain ⟨hb1, h1, h2⟩ := hal
  go_wp2_with (refine wpL_load stInt h1 (by rfl) (by rfl) ?_)
  refine (HW.out w1 hb1).mono ?_
  rintro e w2 ⟨v5, rfl, hR, hb2⟩
  replace h2 := (hb2.block _ (box_lt h2)).trans h2
  have HN := Lib.hid (number_any v5 z 1 w2 hR nz (by rw [dig_pos (by omega)]; simp [dig_zero]))
  clear hR
  go_wp2_with fail
  refine HN.out.mono ?_
  rintro e w3 ⟨v6, rfl, hS, hb3⟩
  replace h2 := (hb3.block _ (box_lt h2)).trans h2
  have HSV := Lib.hid hS
  obtain ⟨cs, rfl, hlen, hone⟩ := stepOf_cells hS
  clear hS
  go_wp2_with (refine wpL_store (cells := cs.toArray) stStep h2 (by rfl) (by simpa using hlen) (by simpa using hone) (by rfl) (by rfl) ?_)
  have hs := setRow_facts h2 cs.toArray
  exact bodyPost_ret (results_cell rfl stStep rfl hs.1 (by simpa using hlen)) rfl ⟨_, rfl, StepOf.other HSV.out h2 noU_zero hs.2.1, hs.2.2 _ _ (Nat.le_succ _) (ext_trans hb1 (ext_trans hb2 hb3))⟩

set_option maxRecDepth 100000 in
set_option maxHeartbeats 2000000 in
theorem I_any (v : Value) (x : Vl) (w : World) (hv : VlAt w v x) (hg : Lg x.nl) (hn : x.nl.length ≤ 100000) :
    Calls Tryd.prog 31 #[v] w fun e w' => ∃ v', e = .returned v' ∧ IntAt w' v' (ZI x.nn (VL x.nl)) ∧ Below w.heap.size w w' := by
  obtain ⟨k, nn, nl, dn, dl, s, r⟩ := x
  obtain ⟨a, b, rfl, hx1, hx2⟩ := hv
  have HI := Lib.hid (fun W (h : Below w.heap.size w W) => IntOf_any nn a nl W (hx1.below h) hg hn)
  clear hg hn
  obtain ⟨a1, c1, rfl, -⟩ := hx1
  obtain ⟨a2, c2, rfl, -⟩ := hx2
  simp only at *
  generalize hm1 : nl.length = m1 at *
  generalize hm2 : dl.length = m2 at *
  clear hm1 hm2
  have hal := alloc2 w (.cells #[.int .i64 k, .bool nn, .slice a1 m1 c1, .bool dn, .slice a2 m2 c2, .string s, .int .i64 r] 26) (.cells #[.bool false, .slice none 0 0] 41)
  go_enter Tryd.func31, Tryd.ntmps31
  go_upto_region 1 with fail
  generalize ((w.alloc (.cells #[.int .i64 k, .bool nn, .slice a1 m1 c1, .bool dn, .slice a2 m2 c2, .string s, .int .i64 r] 26)).alloc (.cells #[.bool false, .slice none 0 0] 41)) = w1 at *
  obtain ⟨hb1, h1, h2⟩ := hal
  have d1 := box_cell h1 1
  have d2 := box_cell h1 2
  simp only [List.getElem?_toArray, List.getElem?_cons_zero, List.getElem?_cons_succ] at d1 d2
  go_wp2_with fail
  refine (HI.out w1 hb1).mono ?_
  rintro e w2 ⟨v6, rfl, hS, hb2⟩
  replace h2 := (hb2.block _ (box_lt h2)).trans h2
  have HSV := Lib.hid hS
  obtain ⟨cs, rfl, hlen, hone⟩ := intAt_cells hS
  clear hS
  go_wp2_with (refine wpL_store (cells := cs.toArray) stInt h2 (by rfl) (by simpa using hlen) (by simpa using hone) (by rfl) (by rfl) ?_)
  have hs := setRow_facts h2 cs.toArray
  exact bodyPost_ret (results_cell rfl stInt rfl hs.1 (by simpa using hlen)) rfl ⟨_, rfl, intAt_other HSV.out h2 noInt_zeroI hs.2.1, hs.2.2 _ _ (Nat.le_succ _) (ext_trans hb1 hb2)⟩

set_option maxRecDepth 100000 in
set_option maxHeartbeats 2000000 in
theorem N_any (n : Int) (w : World) (hn1 : -9223372036854775808 ≤ n) (hn2 : n ≤ 9223372036854775807) :
    Calls Tryd.prog 61 #[.int .i64 n] w fun e w' => ∃ v', e = .returned v' ∧ VlAt w' v' (valZ n) ∧ Below w.heap.size w w' := by
  have hal1 := ext_alloc w (.cells #[.int .i64 0, .bool false, .slice none 0 0, .bool false, .slice none 0 0, .string ⟨#[]⟩, .int .i64 0] 26)
  have hal2 := heap_new w (.cells #[.int .i64 0, .bool false, .slice none 0 0, .bool false, .slice none 0 0, .string ⟨#[]⟩, .int .i64 0] 26)
  go_enter Tryd.func61, Tryd.ntmps61
  go_upto_region 1 with fail
  generalize (w.alloc (.cells #[.int .i64 0, .bool false, .slice none 0 0, .bool false, .slice none 0 0, .string ⟨#[]⟩, .int .i64 0] 26)) = w1 at *
  have hb1 := hal1
  have h1 := hal2
  clear hal1 hal2
  have HN := Lib.hid (Number_any n w1 hn1 hn2)
  have hln : (dig n.natAbs).length ≤ 1000000 := Nat.le_trans (dig_length_le (k := 4) (by omega)) (by omega)
  have HLN := Lib.hid hln
  clear hln
  go_wp2_with fail
  refine HN.out.mono ?_
  rintro e w2 ⟨v5, rfl, hI, hb2⟩
  have HW := Lib.hid (WholeV_any v5 n w2 hI HLN.out)
  clear hI
  replace h1 := (hb2.block _ (box_lt h1)).trans h1
  go_wp2_with fail
  refine HW.out.mono ?_
  rintro e w3 ⟨v6, rfl, hS, hb3⟩
  replace h1 := (hb3.block _ (box_lt h1)).trans h1
  have HSV := Lib.hid hS
  obtain ⟨cs, rfl, hlen, hone⟩ := vlAt_cells hS
  clear hS
  go_wp2_with (refine wpL_store (cells := cs.toArray) stVal h1 (by rfl) (by simpa using hlen) (by simpa using hone) (by rfl) (by rfl) ?_)
  have hs := setRow_facts h1 cs.toArray
  exact bodyPost_ret (results_cell rfl stVal rfl hs.1 (by simpa using hlen)) rfl ⟨_, rfl, VlAt.other HSV.out h1 noU_zeroV hs.2.1, hs.2.2 _ _ (Nat.le_refl _) (ext_trans hb1 (ext_trans hb2 hb3))⟩

/-- The number of a value: numerator and denominator. -/
def numZD (x : Vl) : Int × Nat := if x.k = 3 then (ZI x.nn (VL x.nl), VL x.dl) else (ZI x.nn (VL x.nl), 1)
set_option maxRecDepth 100000 in
set_option maxHeartbeats 2000000 in
theorem NumberV_any (v : Value) (x : Vl) (w : World) (hv : VlAt w v x) (hg : Lg x.nl) (hgd : Lg x.dl) (hn : x.nl.length ≤ 100000) (hnd : x.dl.length ≤ 100000) :
    Calls Tryd.prog 11 #[v] w fun e w' => ∃ v', e = .returned v' ∧ RatAt w' v' (numZD x).1 (numZD x).2 ∧ Below w.heap.size w w' := by
  obtain ⟨k, nn, nl, dn, dl, s, r⟩ := x
  obtain ⟨a, b, rfl, hx1, hx2⟩ := hv
  have HI := Lib.hid (fun W (h : Below w.heap.size w W) => IntOf_any nn a nl W (hx1.below h) hg hn)
  have HR := Lib.hid (fun W (h : Below w.heap.size w W) => RatioOf_any nn dn a b nl dl W (hx1.below h) (hx2.below h) hg hgd hn hnd)
  clear hg hn hgd hnd
  obtain ⟨a1, c1, rfl, -⟩ := hx1
  obtain ⟨a2, c2, rfl, -⟩ := hx2
  simp only at *
  generalize hm1 : nl.length = m1 at *
  generalize hm2 : dl.length = m2 at *
  clear hm1 hm2
  have hal := alloc2 w (.cells #[.int .i64 k, .bool nn, .slice a1 m1 c1, .bool dn, .slice a2 m2 c2, .string s, .int .i64 r] 26) (.cells #[.bool false, .slice none 0 0, .slice none 0 0] 43)
  go_enter Tryd.func11, Tryd.ntmps11
  go_upto_region 1 with fail
  generalize ((w.alloc (.cells #[.int .i64 k, .bool nn, .slice a1 m1 c1, .bool dn, .slice a2 m2 c2, .string s, .int .i64 r] 26)).alloc (.cells #[.bool false, .slice none 0 0, .slice none 0 0] 43)) = w1 at *
  obtain ⟨hb1, h1, h2⟩ := hal
  have d0 := box_cell h1 0
  have d1 := box_cell h1 1
  have d2 := box_cell h1 2
  have d3 := box_cell h1 3
  have d4 := box_cell h1 4
  simp only [List.getElem?_toArray, List.getElem?_cons_zero, List.getElem?_cons_succ] at d0 d1 d2 d3 d4
  by_cases hk : k = 3
  · subst hk
    go_wp2_with fail
    refine (HR.out w1 hb1).mono ?_
    rintro e w2 ⟨v6, rfl, hS, hb2⟩
    replace h2 := (hb2.block _ (box_lt h2)).trans h2
    have hnz : numZD ⟨3, nn, nl, dn, dl, s, r⟩ = (ZI nn (VL nl), VL dl) := rfl
    replace hS : RatAt w2 v6 (numZD ⟨3, nn, nl, dn, dl, s, r⟩).1 (numZD ⟨3, nn, nl, dn, dl, s, r⟩).2 := by rw [hnz]; exact hS
    have HSV := Lib.hid hS
    obtain ⟨cs, rfl, hlen, hone⟩ := ratAt_cells hS
    clear hS
    go_wp2_with (refine wpL_store (cells := cs.toArray) stRat h2 (by rfl) (by simpa using hlen) (by simpa using hone) (by rfl) (by rfl) ?_)
    have hs := setRow_facts h2 cs.toArray
    exact bodyPost_ret (results_cell rfl stRat rfl hs.1 (by simpa using hlen)) rfl ⟨_, rfl, ratAt_other HSV.out h2 noInt_zeroR hs.2.1, hs.2.2 _ _ (Nat.le_succ _) (ext_trans hb1 hb2)⟩
  · have hk3 : (k == 3) = false := by simpa using hk
    have hnz : numZD ⟨k, nn, nl, dn, dl, s, r⟩ = (ZI nn (VL nl), 1) := by unfold numZD; rw [if_neg hk]
    have HNZ := Lib.hid hnz
    clear hk hnz
    go_wp2_with fail
    refine (HI.out w1 hb1).mono ?_
    rintro e w2 ⟨v5, rfl, hI, hb2⟩
    replace h2 := (hb2.block _ (box_lt h2)).trans h2
    have HW := Lib.hid (Whole_any v5 _ w2 hI)
    clear hI
    go_wp2_with fail
    refine HW.out.mono ?_
    rintro e w3 ⟨v6, rfl, hS, hb3⟩
    replace h2 := (hb3.block _ (box_lt h2)).trans h2
    replace hS : RatAt w3 v6 (numZD ⟨k, nn, nl, dn, dl, s, r⟩).1 (numZD ⟨k, nn, nl, dn, dl, s, r⟩).2 := by rw [HNZ.out]; exact hS
    have HSV := Lib.hid hS
    obtain ⟨cs, rfl, hlen, hone⟩ := ratAt_cells hS
    clear hS
    go_wp2_with (refine wpL_store (cells := cs.toArray) stRat h2 (by rfl) (by simpa using hlen) (by simpa using hone) (by rfl) (by rfl) ?_)
    have hs := setRow_facts h2 cs.toArray
    exact bodyPost_ret (results_cell rfl stRat rfl hs.1 (by simpa using hlen)) rfl ⟨_, rfl, ratAt_other HSV.out h2 noInt_zeroR hs.2.1, hs.2.2 _ _ (Nat.le_succ _) (ext_trans hb1 (ext_trans hb2 hb3))⟩

end Go.Proofs.YtpmadgmjkljbgaaDoor

/- Walks: heap.Int. -/
namespace Go.Proofs.YtpmadgmjkljbgaaDoor
open Go.RowKit

theorem u64_neg {n : Int} (h : n < 0) (h1 : -9223372036854775808 ≤ n) : IntKind.u64.wrap (-IntKind.u64.wrap n) = ((n.natAbs : Nat) : Int) := by
  have e1 : IntKind.u64.wrap n = n + 18446744073709551616 := by
    simp only [IntKind.wrap, IntKind.signed, IntKind.bits, Bool.false_and, Bool.false_eq_true, if_false]
    omega
  rw [e1]
  simp only [IntKind.wrap, IntKind.signed, IntKind.bits, Bool.false_and, Bool.false_eq_true, if_false]
  omega
theorem u32_mod (u : Nat) : IntKind.u32.wrap (u : Int) = ((u % 4294967296 : Nat) : Int) := by
  simp only [IntKind.wrap, IntKind.signed, IntKind.bits, Bool.false_and, Bool.false_eq_true, if_false]
  omega
set_option maxRecDepth 100000 in
set_option maxHeartbeats 2000000 in
theorem HeapInt_any (n : Int) (w : World) (hn1 : -9223372036854775808 ≤ n) (hn2 : n ≤ 9223372036854775807) :
    Calls Tryd.prog 19 #[.int .i64 n] w fun e w' => ∃ v', e = .returned v' ∧ VlAt w' v' (valZ n) ∧ Below w.heap.size w w' := by
  have HN := Lib.hid hn1
  obtain ⟨i1, hji, hy0, hy1, hy2⟩ := info_parts infoU
  by_cases hneg : n < 0
  · have HV := Lib.hid (show valZ n = ⟨2, true, lim n.natAbs, false, [], ⟨#[]⟩, 0⟩ by unfold valZ; simp [hneg])
    have hw := u64_neg hneg hn1
    have hal := alloc2 w (.cells #[.int .i64 0, .bool false, .slice none 0 0, .bool false, .slice none 0 0, .string ⟨#[]⟩, .int .i64 0] 26) (.cells #[.int .i64 2, .bool true, .slice none 0 0, .bool false, .slice none 0 0, .string ⟨#[]⟩, .int .i64 0] 26)
    go_enter Tryd.func19, Tryd.ntmps19
    go_wp2
    clear hw
    generalize ((w.alloc (.cells #[.int .i64 0, .bool false, .slice none 0 0, .bool false, .slice none 0 0, .string ⟨#[]⟩, .int .i64 0] 26)).alloc (.cells #[.int .i64 2, .bool true, .slice none 0 0, .bool false, .slice none 0 0, .string ⟨#[]⟩, .int .i64 0] 26 (0, 0))) = w1 at *
    obtain ⟨hb1, h1, h2⟩ := hal
    have hw1 : w.heap.size + 1 < w1.heap.size := box_lt h2
    go_loopg [4] 3 (fun q s4 wr => ∃ (u : Nat) (o : List Nat) (sv : Value), s4 = .int .u64 (u : Int) ∧ u < 4294967296 ^ q ∧ u < 18446744073709551616 ∧ o.length ≤ 3 - q ∧ q ≤ 3 ∧ wr.heap[w.heap.size + 1]? = some (.cells #[.int .i64 2, .bool true, sv, .bool false, .slice none 0 0, .string ⟨#[]⟩, .int .i64 0] 26 (0, 0)) ∧ wr.heap[w.heap.size]? = some (.cells #[.int .i64 0, .bool false, .slice none 0 0, .bool false, .slice none 0 0, .string ⟨#[]⟩, .int .i64 0] 26 (0, 0)) ∧ wr.ownsRow w1.heap.size 51 1 sv o.length (o.map cellU) ∧ Hid (o ++ lim u = lim n.natAbs) ∧ Below w.heap.size w wr ∧ w1.heap.size ≤ wr.heap.size)
    case atStart => exact ⟨n.natAbs, [], _, rfl, by omega, by omega, by simp, by omega, h2, h1, World.ownsRow_nil _ _ _ _, rfl, hb1, Nat.le_refl _⟩
    case round =>
      clear hb1 h1 h2
      obtain ⟨u, o, sv, rfl, hq, hu, hol, hq3, h2, h1, hown, hL, hb, hsz⟩ := hrel
      have HSZ := Lib.hid hsz
      clear hsz
      by_cases hu0 : u = 0
      · subst hu0
        have HL := Lib.hid (show o = lim n.natAbs by have := hL.out; rw [lim_zero, List.append_nil] at this; exact this)
        have HU := Lib.hid (rowU_own hown)
        obtain ⟨a5, c5, rfl⟩ := own_isSlice hown
        have HB := Lib.hid hb
        have H1 := Lib.hid h1
        have H2 := Lib.hid h2
        have hlen : o.length = o.length := rfl
        generalize hlo : o.length = lo at *
        clear hL hown hb h1 h2 hlen hq hol
        go_upto_region 9 with fail
        refine wp_region_lit ?_
        refine wpL_load stVal H2.out (by rfl) (by rfl) ?_
        go_wp2_with (refine wpL_store (cells := #[.int .i64 2, .bool true, .slice a5 lo c5, .bool false, .slice none 0 0, .string ⟨#[]⟩, .int .i64 0]) stVal H1.out (by rfl) (by rfl) (by rfl) (by rfl) (by rfl) ?_)
        have hs := setRow_facts H1.out #[.int .i64 2, .bool true, .slice a5 lo c5, .bool false, .slice none 0 0, .string ⟨#[]⟩, .int .i64 0]
        exact bodyPost_ret (results_cell rfl stVal rfl hs.1 rfl) rfl ⟨_, rfl, by rw [HV.out]; exact ⟨_, _, rfl, by rw [← HL.out]; exact RowU.other HU.out H1.out noU_zeroV hs.2.1, RowOf.nil _ _⟩, hs.2.2 _ _ (Nat.le_refl _) HB.out⟩
      · obtain ⟨q, rfl⟩ : ∃ j, gk = j + 1 := ⟨gk - 1, by rcases Nat.eq_zero_or_pos gk with h | h; (subst h; simp at hq; omega); omega⟩
        have hup : (0 : Int) < (u : Int) := by omega
        have hup2 : 0 < u := by omega
        have HW := Lib.hid (u32_mod u)
        have HQ := Lib.hid (show u / 4294967296 < 4294967296 ^ q by rw [Nat.div_lt_iff_lt_mul (by omega), ← Nat.pow_succ]; exact hq)
        have HL := Lib.hid (show (o ++ [u % 4294967296]) ++ lim (u / 4294967296) = lim n.natAbs by rw [List.append_assoc, List.singleton_append, ← lim_pos hu0]; exact hL.out)
        have g2 := box_cell h2 2
        have f2 := box_frozen h2 2
        simp only [List.getElem?_toArray, List.getElem?_cons_zero, List.getElem?_cons_succ] at g2
        have H1 := Lib.hid h1
        have H2 := Lib.hid h2
        obtain ⟨a5, c5, rfl⟩ := own_isSlice hown
        clear hL h1 h2 hq
        go_wp2_with (at_builtin; refine wpList_append_own _ rfl _ _ 22 rfl w1.heap.size 51 i1 (.int .u32 0) 1 4 Tryd.underlying22 hji hy0 hy1 hy2 rfl (by decide) _ _ _ rfl (hown.alloc _) ⟨wr.heap.size, 0, none⟩ 1 1 [.int .u32 (IntKind.u32.wrap (u : Int))] rfl rfl ?c1ona ?c2ona ?c3ona ?c4ona ?c5ona ?_)
        try (case c1ona => exact cell_one_new _ _ _)
        try (case c2ona => simp [Value.oneCell'])
        case c3ona => rw [maxLen_eq']; omega
        case c4ona => omega
        case c5ona => have := hb.size; have := box_lt H2.out; have := HSZ.out; simp; omega
        intro v' w2 hown2 hgr2 _
        have hx2 : w2.heap[w.heap.size + 1]? = some (.cells #[.int .i64 2, .bool true, .slice a5 o.length c5, .bool false, .slice none 0 0, .string ⟨#[]⟩, .int .i64 0] 26 (0, 0)) := (hgr2.block _ (by simp; have := box_lt H2.out; omega) (fun e => by have := (hown.lt _ e.symm).1; omega)).trans (box_alloc H2.out _)
        have hx1 : w2.heap[w.heap.size]? = some (.cells #[.int .i64 0, .bool false, .slice none 0 0, .bool false, .slice none 0 0, .string ⟨#[]⟩, .int .i64 0] 26 (0, 0)) := (hgr2.block _ (by simp; have := box_lt H1.out; omega) (fun e => by have := (hown.lt _ e.symm).1; omega)).trans (box_alloc H1.out _)
        have hb2 : Below w.heap.size w w2 := (hb.alloc hb.size _).grown hgr2 (by have := hb.size; simp; omega) (fun q hq => by have := (hown.lt q hq).1; omega)
        have hsz2 : w1.heap.size ≤ w2.heap.size := by have := hgr2.size; simp at this; have := HSZ.out; omega
        have hown3 := own_snocU (x := u % 4294967296) hown2 rfl HW.out
        have hown4 := hown3.kept (grown_setC' w2 (w.heap.size + 1) 2 v') (by cases hv : v'.ownBlock with | none => exact .inl rfl | some k => exact .inr (by have := (hown3.lt k hv).1; simp; omega))
        have hset : (w2.setCell ⟨w.heap.size + 1, 2, none⟩ v').heap[w.heap.size + 1]? = some (.cells #[.int .i64 2, .bool true, v', .bool false, .slice none 0 0, .string ⟨#[]⟩, .int .i64 0] 26 (0, 0)) := by simp [World.setCell, Array.getElem?_modify, hx2]
        have hset1 : (w2.setCell ⟨w.heap.size + 1, 2, none⟩ v').heap[w.heap.size]? = some (.cells #[.int .i64 0, .bool false, .slice none 0 0, .bool false, .slice none 0 0, .string ⟨#[]⟩, .int .i64 0] 26 (0, 0)) := by simp [World.setCell, Array.getElem?_modify, hx1]
        have g2' := box_cell hx2 2
        have f2' := box_frozen hx2 2
        simp only [List.getElem?_toArray, List.getElem?_cons_zero, List.getElem?_cons_succ] at g2'
        have HO := Lib.hid hown4
        have HS2 := Lib.hid hset
        have HS1 := Lib.hid hset1
        have HBB := Lib.hid (hb2.setCell (p := ⟨w.heap.size + 1, 2, none⟩) (Nat.le_succ _) v')
        have HSZ2 := Lib.hid (show w1.heap.size ≤ (w2.setCell ⟨w.heap.size + 1, 2, none⟩ v').heap.size by simpa [World.setCell] using hsz2)
        obtain ⟨a6, c6, rfl⟩ := own_isSlice hown2
        clear hown hown2 hown3 hown4 hset hset1 hx2 hx1 hb2 hgr2 H1 H2 g2 f2 hsz2 hb
        go_wp2
        go_roundg q
        case measure => omega
        case rel => exact ⟨u / 4294967296, _, _, rfl, HQ.out, by omega, by simp; omega, by omega, HS2.out, HS1.out, HO.out, HL.out, HBB.out, HSZ2.out⟩
  · have HV := Lib.hid (show valZ n = ⟨2, false, lim n.natAbs, false, [], ⟨#[]⟩, 0⟩ by unfold valZ; simp [hneg])
    have hal := alloc2 w (.cells #[.int .i64 0, .bool false, .slice none 0 0, .bool false, .slice none 0 0, .string ⟨#[]⟩, .int .i64 0] 26) (.cells #[.int .i64 2, .bool false, .slice none 0 0, .bool false, .slice none 0 0, .string ⟨#[]⟩, .int .i64 0] 26)
    go_enter Tryd.func19, Tryd.ntmps19
    go_wp2
    generalize ((w.alloc (.cells #[.int .i64 0, .bool false, .slice none 0 0, .bool false, .slice none 0 0, .string ⟨#[]⟩, .int .i64 0] 26)).alloc (.cells #[.int .i64 2, .bool false, .slice none 0 0, .bool false, .slice none 0 0, .string ⟨#[]⟩, .int .i64 0] 26 (0, 0))) = w1 at *
    obtain ⟨hb1, h1, h2⟩ := hal
    have hw1 : w.heap.size + 1 < w1.heap.size := box_lt h2
    go_loopg [4] 3 (fun q s4 wr => ∃ (u : Nat) (o : List Nat) (sv : Value), s4 = .int .u64 (u : Int) ∧ u < 4294967296 ^ q ∧ u < 18446744073709551616 ∧ o.length ≤ 3 - q ∧ q ≤ 3 ∧ wr.heap[w.heap.size + 1]? = some (.cells #[.int .i64 2, .bool false, sv, .bool false, .slice none 0 0, .string ⟨#[]⟩, .int .i64 0] 26 (0, 0)) ∧ wr.heap[w.heap.size]? = some (.cells #[.int .i64 0, .bool false, .slice none 0 0, .bool false, .slice none 0 0, .string ⟨#[]⟩, .int .i64 0] 26 (0, 0)) ∧ wr.ownsRow w1.heap.size 51 1 sv o.length (o.map cellU) ∧ Hid (o ++ lim u = lim n.natAbs) ∧ Below w.heap.size w wr ∧ w1.heap.size ≤ wr.heap.size)
    case atStart => exact ⟨n.natAbs, [], _, by congr 1; omega, by omega, by omega, by simp, by omega, h2, h1, World.ownsRow_nil _ _ _ _, rfl, hb1, Nat.le_refl _⟩
    case round =>
      clear hb1 h1 h2
      obtain ⟨u, o, sv, rfl, hq, hu, hol, hq3, h2, h1, hown, hL, hb, hsz⟩ := hrel
      have HSZ := Lib.hid hsz
      clear hsz
      by_cases hu0 : u = 0
      · subst hu0
        have HL := Lib.hid (show o = lim n.natAbs by have := hL.out; rw [lim_zero, List.append_nil] at this; exact this)
        have HU := Lib.hid (rowU_own hown)
        obtain ⟨a5, c5, rfl⟩ := own_isSlice hown
        have HB := Lib.hid hb
        have H1 := Lib.hid h1
        have H2 := Lib.hid h2
        have hlen : o.length = o.length := rfl
        generalize hlo : o.length = lo at *
        clear hL hown hb h1 h2 hlen hq hol
        go_upto_region 9 with fail
        refine wp_region_lit ?_
        refine wpL_load stVal H2.out (by rfl) (by rfl) ?_
        go_wp2_with (refine wpL_store (cells := #[.int .i64 2, .bool false, .slice a5 lo c5, .bool false, .slice none 0 0, .string ⟨#[]⟩, .int .i64 0]) stVal H1.out (by rfl) (by rfl) (by rfl) (by rfl) (by rfl) ?_)
        have hs := setRow_facts H1.out #[.int .i64 2, .bool false, .slice a5 lo c5, .bool false, .slice none 0 0, .string ⟨#[]⟩, .int .i64 0]
        exact bodyPost_ret (results_cell rfl stVal rfl hs.1 rfl) rfl ⟨_, rfl, by rw [HV.out]; exact ⟨_, _, rfl, by rw [← HL.out]; exact RowU.other HU.out H1.out noU_zeroV hs.2.1, RowOf.nil _ _⟩, hs.2.2 _ _ (Nat.le_refl _) HB.out⟩
      · obtain ⟨q, rfl⟩ : ∃ j, gk = j + 1 := ⟨gk - 1, by rcases Nat.eq_zero_or_pos gk with h | h; (subst h; simp at hq; omega); omega⟩
        have hup : (0 : Int) < (u : Int) := by omega
        have hup2 : 0 < u := by omega
        have HW := Lib.hid (u32_mod u)
        have HQ := Lib.hid (show u / 4294967296 < 4294967296 ^ q by rw [Nat.div_lt_iff_lt_mul (by omega), ← Nat.pow_succ]; exact hq)
        have HL := Lib.hid (show (o ++ [u % 4294967296]) ++ lim (u / 4294967296) = lim n.natAbs by rw [List.append_assoc, List.singleton_append, ← lim_pos hu0]; exact hL.out)
        have g2 := box_cell h2 2
        have f2 := box_frozen h2 2
        simp only [List.getElem?_toArray, List.getElem?_cons_zero, List.getElem?_cons_succ] at g2
        have H1 := Lib.hid h1
        have H2 := Lib.hid h2
        obtain ⟨a5, c5, rfl⟩ := own_isSlice hown
        clear hL h1 h2 hq
        go_wp2_with (at_builtin; refine wpList_append_own _ rfl _ _ 22 rfl w1.heap.size 51 i1 (.int .u32 0) 1 4 Tryd.underlying22 hji hy0 hy1 hy2 rfl (by decide) _ _ _ rfl (hown.alloc _) ⟨wr.heap.size, 0, none⟩ 1 1 [.int .u32 (IntKind.u32.wrap (u : Int))] rfl rfl ?c1onb ?c2onb ?c3onb ?c4onb ?c5onb ?_)
        try (case c1onb => exact cell_one_new _ _ _)
        try (case c2onb => simp [Value.oneCell'])
        case c3onb => rw [maxLen_eq']; omega
        case c4onb => omega
        case c5onb => have := hb.size; have := box_lt H2.out; have := HSZ.out; simp; omega
        intro v' w2 hown2 hgr2 _
        have hx2 : w2.heap[w.heap.size + 1]? = some (.cells #[.int .i64 2, .bool false, .slice a5 o.length c5, .bool false, .slice none 0 0, .string ⟨#[]⟩, .int .i64 0] 26 (0, 0)) := (hgr2.block _ (by simp; have := box_lt H2.out; omega) (fun e => by have := (hown.lt _ e.symm).1; omega)).trans (box_alloc H2.out _)
        have hx1 : w2.heap[w.heap.size]? = some (.cells #[.int .i64 0, .bool false, .slice none 0 0, .bool false, .slice none 0 0, .string ⟨#[]⟩, .int .i64 0] 26 (0, 0)) := (hgr2.block _ (by simp; have := box_lt H1.out; omega) (fun e => by have := (hown.lt _ e.symm).1; omega)).trans (box_alloc H1.out _)
        have hb2 : Below w.heap.size w w2 := (hb.alloc hb.size _).grown hgr2 (by have := hb.size; simp; omega) (fun q hq => by have := (hown.lt q hq).1; omega)
        have hsz2 : w1.heap.size ≤ w2.heap.size := by have := hgr2.size; simp at this; have := HSZ.out; omega
        have hown3 := own_snocU (x := u % 4294967296) hown2 rfl HW.out
        have hown4 := hown3.kept (grown_setC' w2 (w.heap.size + 1) 2 v') (by cases hv : v'.ownBlock with | none => exact .inl rfl | some k => exact .inr (by have := (hown3.lt k hv).1; simp; omega))
        have hset : (w2.setCell ⟨w.heap.size + 1, 2, none⟩ v').heap[w.heap.size + 1]? = some (.cells #[.int .i64 2, .bool false, v', .bool false, .slice none 0 0, .string ⟨#[]⟩, .int .i64 0] 26 (0, 0)) := by simp [World.setCell, Array.getElem?_modify, hx2]
        have hset1 : (w2.setCell ⟨w.heap.size + 1, 2, none⟩ v').heap[w.heap.size]? = some (.cells #[.int .i64 0, .bool false, .slice none 0 0, .bool false, .slice none 0 0, .string ⟨#[]⟩, .int .i64 0] 26 (0, 0)) := by simp [World.setCell, Array.getElem?_modify, hx1]
        have g2' := box_cell hx2 2
        have f2' := box_frozen hx2 2
        simp only [List.getElem?_toArray, List.getElem?_cons_zero, List.getElem?_cons_succ] at g2'
        have HO := Lib.hid hown4
        have HS2 := Lib.hid hset
        have HS1 := Lib.hid hset1
        have HBB := Lib.hid (hb2.setCell (p := ⟨w.heap.size + 1, 2, none⟩) (Nat.le_succ _) v')
        have HSZ2 := Lib.hid (show w1.heap.size ≤ (w2.setCell ⟨w.heap.size + 1, 2, none⟩ v').heap.size by simpa [World.setCell] using hsz2)
        obtain ⟨a6, c6, rfl⟩ := own_isSlice hown2
        clear hown hown2 hown3 hown4 hset hset1 hx2 hx1 hb2 hgr2 H1 H2 g2 f2 hsz2 hb
        go_wp2
        go_roundg q
        case measure => omega
        case rel => exact ⟨u / 4294967296, _, _, rfl, HQ.out, by omega, by simp; omega, by omega, HS2.out, HS1.out, HO.out, HL.out, HBB.out, HSZ2.out⟩

end Go.Proofs.YtpmadgmjkljbgaaDoor

/- Walks: SameValue of equal values; RatioOk. -/
namespace Go.Proofs.YtpmadgmjkljbgaaDoor
open Go.RowKit

theorem sameI_self (b : Bool) (l : List Nat) : sameI b l b l = true := by unfold sameI; simp
set_option maxRecDepth 100000 in
set_option maxHeartbeats 2000000 in
theorem SameValue_eq (v1 v2 : Value) (x : Vl) (w : World) (h1 : VlAt w v1 x) (h2 : VlAt w v2 x) (n1 : x.nl.length ≤ 2000000) (n2 : x.dl.length ≤ 2000000) :
    Calls Tryd.prog 8 #[v1, v2] w fun e w' => e = .returned (.bool true) ∧ Below w.heap.size w w' := by
  obtain ⟨k, nn, nl, dn, dl, s, r⟩ := x
  obtain ⟨a, b, rfl, hx1, hx2⟩ := h1
  obtain ⟨a', b', rfl, hy1, hy2⟩ := h2
  have HE1 := Lib.hid (fun W (h : Below w.heap.size w W) => SameInt_any nn nn a a' nl nl W (hx1.below h) (hy1.below h) n1)
  have HE2 := Lib.hid (fun W (h : Below w.heap.size w W) => SameInt_any dn dn b b' dl dl W (hx2.below h) (hy2.below h) n2)
  rw [sameI_self] at HE1 HE2
  clear n1 n2
  obtain ⟨a1, c1, rfl, -⟩ := hx1
  obtain ⟨a2, c2, rfl, -⟩ := hx2
  obtain ⟨a3, c3, rfl, -⟩ := hy1
  obtain ⟨a4, c4, rfl, -⟩ := hy2
  (try simp only at *)
  generalize hm1 : nl.length = m1 at *
  generalize hm2 : dl.length = m2 at *
  clear hm1 hm2
  have hal := alloc2 w (.cells #[.int .i64 k, .bool nn, .slice a1 m1 c1, .bool dn, .slice a2 m2 c2, .string s, .int .i64 r] 26) (.cells #[.int .i64 k, .bool nn, .slice a3 m1 c3, .bool dn, .slice a4 m2 c4, .string s, .int .i64 r] 26)
  go_enter Tryd.func8, Tryd.ntmps8
  go_upto_region 1 with fail
  generalize ((w.alloc (.cells #[.int .i64 k, .bool nn, .slice a1 m1 c1, .bool dn, .slice a2 m2 c2, .string s, .int .i64 r] 26)).alloc (.cells #[.int .i64 k, .bool nn, .slice a3 m1 c3, .bool dn, .slice a4 m2 c4, .string s, .int .i64 r] 26)) = w1 at *
  obtain ⟨hb1, h1, h2⟩ := hal
  have d0 := box_cell h1 0
  have d1 := box_cell h1 1
  have d2 := box_cell h1 2
  have d3 := box_cell h1 3
  have d4 := box_cell h1 4
  have d5 := box_cell h1 5
  have d6 := box_cell h1 6
  simp only [List.getElem?_toArray, List.getElem?_cons_zero, List.getElem?_cons_succ] at d0 d1 d2 d3 d4 d5 d6
  have e0 := box_cell h2 0
  have e1 := box_cell h2 1
  have e2 := box_cell h2 2
  have e3 := box_cell h2 3
  have e4 := box_cell h2 4
  have e5 := box_cell h2 5
  have e6 := box_cell h2 6
  simp only [List.getElem?_toArray, List.getElem?_cons_zero, List.getElem?_cons_succ] at e0 e1 e2 e3 e4 e5 e6
  go_wp2_with fail
  refine (HE1.out w1 hb1).mono ?_
  rintro e w2 ⟨rfl, hb2⟩
  replace h1 := (hb2.block _ (box_lt h1)).trans h1
  replace h2 := (hb2.block _ (box_lt h2)).trans h2
  clear d0 d1 d2 d3 d4 d5 d6 e0 e1 e2 e3 e4 e5 e6
  have d3 := box_cell h1 3
  have d4 := box_cell h1 4
  simp only [List.getElem?_toArray, List.getElem?_cons_zero, List.getElem?_cons_succ] at d3 d4
  have e3 := box_cell h2 3
  have e4 := box_cell h2 4
  simp only [List.getElem?_toArray, List.getElem?_cons_zero, List.getElem?_cons_succ] at e3 e4
  go_wp2_with fail
  refine (HE2.out w2 (ext_trans hb1 hb2)).mono ?_
  rintro e w3 ⟨rfl, hb3⟩
  go_wp2
  go_ret
  exact ⟨rfl, ext_trans hb1 (ext_trans hb2 hb3)⟩

/-- A bool is returned; where it is true, P. -/
def OkB (P : Prop) (w : World) (e : Ending) (w' : World) : Prop := ∃ b, e = .returned (.bool b) ∧ (b = true → P) ∧ Below w.heap.size w w'
theorem intOk_len {b : Bool} {l : List Nat} (h : intOk b l = true) : l.length ≤ 128 := by
  unfold intOk at h
  rw [Bool.and_eq_true, decide_eq_true_eq] at h
  exact h.1
theorem VL_dig {l : List Nat} (h : Lg l) : (dig (VL l)).length ≤ 2 * l.length := by
  refine dig_length_le ?_
  have := L_lt h
  rw [show 2 * l.length = l.length + l.length by omega, Nat.pow_add, ← Nat.mul_pow]
  exact this
theorem intOk_dig {b : Bool} {l : List Nat} (hg : Lg l) (h : intOk b l = true) : (dig (VL l)).length ≤ 256 := by
  have h1 := VL_dig hg
  have h2 := intOk_len h
  omega
set_option maxRecDepth 100000 in
set_option maxHeartbeats 2000000 in
theorem RatioOk_any (b1 b2 : Bool) (v1 v2 : Value) (l1 l2 : List Nat) (w : World) (h1 : RowU w v1 l1) (h2 : RowU w v2 l2) (g1 : Lg l1) (g2 : Lg l2) (n1 : l1.length ≤ 2000000) (n2 : l2.length ≤ 2000000) :
    Calls Tryd.prog 15 #[.agg #[.bool b1, v1, .bool b2, v2]] w fun e w' => OkB (intOk b1 l1 = true ∧ intOk b2 l2 = true ∧ 0 < l2.length ∧ b2 = false) w e w' := by
  have hI1 := Lib.hid (fun W (h : Below w.heap.size w W) => IntOk_any b1 v1 l1 W (h1.below h) n1)
  have hI2 := Lib.hid (fun W (h : Below w.heap.size w W) => IntOk_any b2 v2 l2 W (h2.below h) n2)
  have HO1 := Lib.hid (fun (hn : l1.length ≤ 100000) W (h : Below w.heap.size w W) => Of_any v1 l1 W (h1.below h) g1 hn)
  have HO2 := Lib.hid (fun (hn : l2.length ≤ 100000) W (h : Below w.heap.size w W) => Of_any v2 l2 W (h2.below h) g2 hn)
  have HG := Lib.hid (fun (k1 : intOk b1 l1 = true) (k2 : intOk b2 l2 = true) u1 u2 W (q1 : NatAt W u1 (VL l1)) (q2 : NatAt W u2 (VL l2)) => Common_any u1 u2 (VL l1) (VL l2) W q1 q2 (Nat.le_trans (intOk_dig g1 k1) (by omega)) (Nat.le_trans (intOk_dig g2 k2) (by omega)))
  have HK1 := Lib.hid (fun (k1 : intOk b1 l1 = true) => Nat.le_trans (intOk_len k1) (show 128 ≤ 100000 by omega))
  have HK2 := Lib.hid (fun (k1 : intOk b2 l2 = true) => Nat.le_trans (intOk_len k1) (show 128 ≤ 100000 by omega))
  obtain ⟨a1, c1, rfl, -⟩ := h1
  obtain ⟨a2, c2, rfl, -⟩ := h2
  clear n1 n2 g1 g2
  generalize hm1 : l1.length = m1 at hI1 HO1 ⊢
  generalize hm2 : l2.length = m2 at hI2 HO2 ⊢
  rw [hm1] at HK1
  rw [hm2] at HK2
  clear hm1
  have hal1 := ext_alloc w (.cells #[.bool b1, .slice a1 m1 c1, .bool b2, .slice a2 m2 c2] 54)
  have hal2 := heap_new w (.cells #[.bool b1, .slice a1 m1 c1, .bool b2, .slice a2 m2 c2] 54)
  go_enter Tryd.func15, Tryd.ntmps15
  go_upto_region 1 with fail
  generalize (w.alloc (.cells #[.bool b1, .slice a1 m1 c1, .bool b2, .slice a2 m2 c2] 54)) = w1 at *
  have hb1 := hal1
  have h1 := hal2
  clear hal1 hal2
  have d0 := box_cell h1 0
  have d1 := box_cell h1 1
  have d2 := box_cell h1 2
  have d3 := box_cell h1 3
  simp only [List.getElem?_toArray, List.getElem?_cons_zero, List.getElem?_cons_succ] at d0 d1 d2 d3
  cases k1 : intOk b1 l1 with
  | false =>
    rw [k1] at hI1
    clear k1
    go_wp2_with fail
    refine (hI1.out w1 hb1).mono ?_
    rintro e w2 ⟨rfl, hb2⟩
    go_wp2
    go_ret
    exact ⟨false, rfl, fun h => (by cases h), ext_trans hb1 hb2⟩
  | true =>
    rw [k1] at hI1
    have K1 := Lib.hid k1
    clear k1
    go_wp2_with fail
    refine (hI1.out w1 hb1).mono ?_
    rintro e w2 ⟨rfl, hb2⟩
    replace h1 := (hb2.block _ (box_lt h1)).trans h1
    clear d0 d1 d2 d3
    have d0 := box_cell h1 0
    have d1 := box_cell h1 1
    have d2 := box_cell h1 2
    have d3 := box_cell h1 3
    simp only [List.getElem?_toArray, List.getElem?_cons_zero, List.getElem?_cons_succ] at d0 d1 d2 d3
    cases k2 : intOk b2 l2 with
    | false =>
      rw [k2] at hI2
      clear k2
      go_wp2_with fail
      refine (hI2.out w2 (ext_trans hb1 hb2)).mono ?_
      rintro e w3 ⟨rfl, hb3⟩
      go_wp2
      go_ret
      exact ⟨false, rfl, fun h => (by cases h), ext_trans hb1 (ext_trans hb2 hb3)⟩
    | true =>
      rw [k2] at hI2
      have K2 := Lib.hid k2
      clear k2
      go_wp2_with fail
      refine (hI2.out w2 (ext_trans hb1 hb2)).mono ?_
      rintro e w3 ⟨rfl, hb3⟩
      replace h1 := (hb3.block _ (box_lt h1)).trans h1
      have hb13 := ext_trans hb1 (ext_trans hb2 hb3)
      clear d0 d1 d2 d3 hb1 hb2 hb3
      have d0 := box_cell h1 0
      have d1 := box_cell h1 1
      have d2 := box_cell h1 2
      have d3 := box_cell h1 3
      simp only [List.getElem?_toArray, List.getElem?_cons_zero, List.getElem?_cons_succ] at d0 d1 d2 d3
      cases b2 with
      | true =>
        go_wp2
        go_ret
        exact ⟨false, rfl, fun h => (by cases h), hb13⟩
      | false =>
        by_cases hz : m2 = 0
        · have hz' : (m2 : Int) = 0 := by omega
          subst hz
          go_wp2
          go_ret
          exact ⟨false, rfl, fun h => (by cases h), hb13⟩
        · have hz' : ((m2 : Int) == 0) = false := by rw [beq_eq_false_iff_ne]; omega
          have HF := Lib.hid (show intOk b1 l1 = true ∧ intOk false l2 = true ∧ 0 < m2 from ⟨K1.out, K2.out, by omega⟩)
          have HO1 := Lib.hid (HO1.out (HK1.out K1.out))
          have HO2 := Lib.hid (HO2.out (HK2.out K2.out))
          have HG := Lib.hid (HG.out K1.out K2.out)
          have hBd : Bxs [(w.heap.size, (.cells #[.bool b1, .slice a1 m1 c1, .bool false, .slice a2 m2 c2] 54))] w w3.drew := ⟨hb13.drew, fun x hx => by
            simp only [List.mem_cons, List.not_mem_nil, or_false] at hx
            subst hx
            exact h1⟩
          clear hz h1 hb13 hI1 hI2 HK1 HK2 hm2
          go_upto_region 3 with fail
          clear d0 d1 d2 d3 hz'
          refine wp_region_noPanic ?_
          refine wp_region_L (S := fun _ W => Bxs [(w.heap.size, (.cells #[.bool b1, .slice a1 m1 c1, .bool false, .slice a2 m2 c2] 54))] w W) (by kernel_rfl) ?_
          refine wpAnyL_take (T := fun _ => True) (i := 0) (v := ?vvr0) rfl (by kernel_rfl) (by kernel_rfl) (by kernel_rfl) (fun _ _ _ h => h) (fun _ _ => Iff.rfl) (fun _ _ _ _ _ => trivial) (Closed.of_B (by kernel_rfl)) (Or.inl ⟨by kernel_rfl, ?hyr0⟩) hBd ?restr0
          case hyr0 => (intro w _; go_simp; with_reducible rfl)
          go_simp
          refine wpAnyL_take (T := fun _ => True) (i := 1) (v := ?vvr1) rfl (by kernel_rfl) (by kernel_rfl) (by kernel_rfl) (fun _ _ _ h => h) (fun _ _ => Iff.rfl) (fun _ _ _ _ _ => trivial) (Closed.of_B (by kernel_rfl)) (Or.inl ⟨by kernel_rfl, ?hyr1⟩) hBd ?restr1
          case hyr1 => (intro w _; go_simp; with_reducible rfl)
          go_simp
          refine wpAnyL_take (T := fun W => Bxs [(w.heap.size, (.cells #[.bool b1, .slice a1 m1 c1, .bool false, .slice a2 m2 c2] 54))] w W) (i := 2) (v := ?vvr2) rfl (by kernel_rfl) (by kernel_rfl) (by kernel_rfl) (fun _ _ _ h => h) (fun _ _ => Iff.rfl) (fun _ _ _ _ h => h) (Closed.of_B (by kernel_rfl)) (Or.inl ⟨by kernel_rfl, ?hyr2⟩) hBd ?restr2
          case hyr2 =>
            intro W hW
            have hx0 := hW.2 ((w.heap.size, (.cells #[.bool b1, .slice a1 m1 c1, .bool false, .slice a2 m2 c2] 54)) : Nat × Obj) (by simp)
            have dx0x1 := box_cell hx0 1
            simp only [List.getElem?_toArray, List.getElem?_cons_zero, List.getElem?_cons_succ] at dx0x1
            clear hW
            go_simp; with_reducible rfl
          go_simp
          refine wpAnyL_take (T := fun _ => True) (i := 4) (v := ?vvr4) rfl (by kernel_rfl) (by kernel_rfl) (by kernel_rfl) (fun _ _ _ h => h) (fun _ _ => Iff.rfl) (fun _ _ _ _ _ => trivial) (Closed.of_B (by kernel_rfl)) (Or.inl ⟨by kernel_rfl, ?hyr4⟩) hBd ?restr4
          case hyr4 => (intro w _; go_simp; with_reducible rfl)
          go_simp
          refine wpAnyL_take (T := fun _ => True) (i := 5) (v := ?vvr5) rfl (by kernel_rfl) (by kernel_rfl) (by kernel_rfl) (fun _ _ _ h => h) (fun _ _ => Iff.rfl) (fun _ _ _ _ _ => trivial) (Closed.of_B (by kernel_rfl)) (Or.inl ⟨by kernel_rfl, ?hyr5⟩) hBd ?restr5
          case hyr5 => (intro w _; go_simp; with_reducible rfl)
          go_simp
          refine wpAnyL_take (T := fun W => Bxs [(w.heap.size, (.cells #[.bool b1, .slice a1 m1 c1, .bool false, .slice a2 m2 c2] 54))] w W) (i := 6) (v := ?vvr6) rfl (by kernel_rfl) (by kernel_rfl) (by kernel_rfl) (fun _ _ _ h => h) (fun _ _ => Iff.rfl) (fun _ _ _ _ h => h) (Closed.of_B (by kernel_rfl)) (Or.inl ⟨by kernel_rfl, ?hyr6⟩) hBd ?restr6
          case hyr6 =>
            intro W hW
            have hx0 := hW.2 ((w.heap.size, (.cells #[.bool b1, .slice a1 m1 c1, .bool false, .slice a2 m2 c2] 54)) : Nat × Obj) (by simp)
            have dx0x3 := box_cell hx0 3
            simp only [List.getElem?_toArray, List.getElem?_cons_zero, List.getElem?_cons_succ] at dx0x3
            clear hW
            go_simp; with_reducible rfl
          go_simp
          refine wpAnyL_rows (R := fun i v _ W => match i with | 3 => NatAt W v (VL l1) | 7 => NatAt W v (VL l2) | 8 => NatAt W v (Nat.gcd (VL l1) (VL l2)) | 9 => NatAt W v 1 | 10 => v = .int .i64 (cmpN (Nat.gcd (VL l1) (VL l2)) 1) | 11 => ∃ b : Bool, v = .bool b | 12 => ∃ b : Bool, v = .bool b | _ => True) (I := fun _ _ W => Bxs [(w.heap.size, (.cells #[.bool b1, .slice a1 m1 c1, .bool false, .slice a2 m2 c2] 54))] w W) [((3, some 28, []), []), ((7, some 32, []), []), ((8, some 33, [3, 7]), [(3, some 28, []), (7, some 32, [])]), ((9, some 34, []), []), ((10, some 35, [8, 9]), [(8, some 33, [3, 7]), (9, some 34, [])]), ((11, some 36, [10]), [(10, some 35, [8, 9])]), ((12, some 2, [11]), [(11, some 36, [10])])] (by kernel_rfl) (by decide) (fun _ _ _ h => h) (fun _ => hBd) ?tabr ?finr
          case tabr =>
            refine TabAll.cons rfl (by kernel_rfl) (fun L vs W hsz hcl hn hd hdn hI K hK => ?_) ?_
            · simp only [putsD, Act.put, List.setIfInBounds_toArray, List.set_cons_zero, List.set_cons_succ] at hK ⊢
              clear hd hdn
              go_simp
              refine (HO1.out W hI.1).mono ?_
              rintro e W3 ⟨v', rfl, hv, hb3⟩
              refine hK _ (v') _ (by rfl) (fun i u l hij hL h => ?_) (hv) (hI.below hb3)
              · match i, hij, hL, h with
                | 3, _, _, h => exact NatAt.below h hb3
                | 7, _, _, h => exact NatAt.below h hb3
                | 8, _, _, h => exact NatAt.below h hb3
                | 9, _, _, h => exact NatAt.below h hb3
                | 10, _, _, h => exact h
                | 11, _, _, h => exact h
                | 12, _, _, h => exact h
                | 0, _, _, _ | 1, _, _, _ | 2, _, _, _ | 4, _, _, _ | 5, _, _, _ | 6, _, _, _ | _ + 13, _, _, _ => trivial
            refine TabAll.cons rfl (by kernel_rfl) (fun L vs W hsz hcl hn hd hdn hI K hK => ?_) ?_
            · simp only [putsD, Act.put, List.setIfInBounds_toArray, List.set_cons_zero, List.set_cons_succ] at hK ⊢
              clear hd hdn
              go_simp
              refine (HO2.out W hI.1).mono ?_
              rintro e W3 ⟨v', rfl, hv, hb3⟩
              refine hK _ (v') _ (by rfl) (fun i u l hij hL h => ?_) (hv) (hI.below hb3)
              · match i, hij, hL, h with
                | 3, _, _, h => exact NatAt.below h hb3
                | 7, _, _, h => exact NatAt.below h hb3
                | 8, _, _, h => exact NatAt.below h hb3
                | 9, _, _, h => exact NatAt.below h hb3
                | 10, _, _, h => exact h
                | 11, _, _, h => exact h
                | 12, _, _, h => exact h
                | 0, _, _, _ | 1, _, _, _ | 2, _, _, _ | 4, _, _, _ | 5, _, _, _ | 6, _, _, _ | _ + 13, _, _, _ => trivial
            refine TabAll.cons rfl (by kernel_rfl) (fun L vs W hsz hcl hn hd hdn hI K hK => ?_) ?_
            · simp only [putsD, Act.put, List.setIfInBounds_toArray, List.set_cons_zero, List.set_cons_succ] at hK ⊢
              have r3 := hd.1
              have r7 := hd.2.1
              generalize hv3 : vs 3 = v3 at *
              have HV3 := Lib.hid hv3
              clear hv3
              generalize hv7 : vs 7 = v7 at *
              have HV7 := Lib.hid hv7
              clear hv7
              clear hd hdn
              have q3 : NatAt W v3 (VL l1) := r3
              have q7 : NatAt W v7 (VL l2) := r7
              clear r3 r7
              go_simp
              refine (HG.out _ _ W q3 q7).mono ?_
              rintro e W3 ⟨v', rfl, hv, hb3⟩
              refine hK _ (v') _ (by rfl) (fun i u l hij hL h => ?_) (hv) (hI.below hb3)
              · match i, hij, hL, h with
                | 3, _, _, h => exact NatAt.below h hb3
                | 7, _, _, h => exact NatAt.below h hb3
                | 8, _, _, h => exact NatAt.below h hb3
                | 9, _, _, h => exact NatAt.below h hb3
                | 10, _, _, h => exact h
                | 11, _, _, h => exact h
                | 12, _, _, h => exact h
                | 0, _, _, _ | 1, _, _, _ | 2, _, _, _ | 4, _, _, _ | 5, _, _, _ | 6, _, _, _ | _ + 13, _, _, _ => trivial
            refine TabAll.cons rfl (by kernel_rfl) (fun L vs W hsz hcl hn hd hdn hI K hK => ?_) ?_
            · simp only [putsD, Act.put, List.setIfInBounds_toArray, List.set_cons_zero, List.set_cons_succ] at hK ⊢
              clear hd hdn
              go_simp
              refine (Small_any 1 W (by omega)).mono ?_
              rintro e W3 ⟨v', rfl, hv, hb3⟩
              refine hK _ (v') _ (by rfl) (fun i u l hij hL h => ?_) (hv) (hI.below hb3)
              · match i, hij, hL, h with
                | 3, _, _, h => exact NatAt.below h hb3
                | 7, _, _, h => exact NatAt.below h hb3
                | 8, _, _, h => exact NatAt.below h hb3
                | 9, _, _, h => exact NatAt.below h hb3
                | 10, _, _, h => exact h
                | 11, _, _, h => exact h
                | 12, _, _, h => exact h
                | 0, _, _, _ | 1, _, _, _ | 2, _, _, _ | 4, _, _, _ | 5, _, _, _ | 6, _, _, _ | _ + 13, _, _, _ => trivial
            refine TabAll.cons rfl (by kernel_rfl) (fun L vs W hsz hcl hn hd hdn hI K hK => ?_) ?_
            · simp only [putsD, Act.put, List.setIfInBounds_toArray, List.set_cons_zero, List.set_cons_succ] at hK ⊢
              have r8 := hd.1
              have r9 := hd.2.1
              generalize hv8 : vs 8 = v8 at *
              have HV8 := Lib.hid hv8
              clear hv8
              generalize hv9 : vs 9 = v9 at *
              have HV9 := Lib.hid hv9
              clear hv9
              clear hd hdn
              have q8 : NatAt W v8 (Nat.gcd (VL l1) (VL l2)) := r8
              have q9 : NatAt W v9 1 := r9
              clear r8 r9
              go_simp
              refine (Compare_any _ _ _ _ W q8 q9).mono ?_
              rintro e W3 ⟨rfl, hb3⟩
              refine hK _ (.int .i64 (cmpN (Nat.gcd (VL l1) (VL l2)) 1)) _ (by rfl) (fun i u l hij hL h => ?_) (rfl) (hI.below hb3)
              · match i, hij, hL, h with
                | 3, _, _, h => exact NatAt.below h hb3
                | 7, _, _, h => exact NatAt.below h hb3
                | 8, _, _, h => exact NatAt.below h hb3
                | 9, _, _, h => exact NatAt.below h hb3
                | 10, _, _, h => exact h
                | 11, _, _, h => exact h
                | 12, _, _, h => exact h
                | 0, _, _, _ | 1, _, _, _ | 2, _, _, _ | 4, _, _, _ | 5, _, _, _ | 6, _, _, _ | _ + 13, _, _, _ => trivial
            refine TabAll.cons rfl (by kernel_rfl) (fun L vs W hsz hcl hn hd hdn hI K hK => ?_) ?_
            · simp only [putsD, Act.put, List.setIfInBounds_toArray, List.set_cons_zero, List.set_cons_succ] at hK ⊢
              have r10 := hd.1
              generalize hv10 : vs 10 = v10 at *
              have HV10 := Lib.hid hv10
              clear hv10
              clear hd hdn
              obtain ⟨c, q10⟩ : ∃ c : Int, v10 = .int .i64 c := ⟨_, r10⟩
              clear r10
              subst q10
              go_simp
              refine hK _ (.bool (c == 0)) _ (by rfl) (fun i u l hij hL h => h) ⟨_, rfl⟩ hI
            refine TabAll.cons rfl (by kernel_rfl) (fun L vs W hsz hcl hn hd hdn hI K hK => ?_) ?_
            · simp only [putsD, Act.put, List.setIfInBounds_toArray, List.set_cons_zero, List.set_cons_succ] at hK ⊢
              have r11 := hd.1
              generalize hv11 : vs 11 = v11 at *
              have HV11 := Lib.hid hv11
              clear hv11
              clear hd hdn
              obtain ⟨bb, q11⟩ : ∃ b : Bool, v11 = .bool b := r11
              subst q11
              go_simp
              refine hK _ (.bool bb) _ (by rfl) (fun i u l hij hL h => h) ⟨_, rfl⟩ hI
            exact TabAll.nil
          case finr =>
            intro vs Wz hd L hsz hall hI
            have r3 := hd.1
            have r7 := hd.2.1
            have r8 := hd.2.2.1
            have r9 := hd.2.2.2.1
            have r10 := hd.2.2.2.2.1
            have r11 := hd.2.2.2.2.2.1
            have r12 := hd.2.2.2.2.2.2.1
            simp only [List.map_cons, List.map_nil, putsD, Act.put, List.setIfInBounds_toArray, List.set_cons_zero, List.set_cons_succ]
            generalize vs 3 = v3 at *
            generalize vs 7 = v7 at *
            generalize vs 8 = v8 at *
            generalize vs 9 = v9 at *
            generalize vs 10 = v10 at *
            generalize vs 11 = v11 at *
            generalize vs 12 = v12 at *
            clear hd hall hsz
            refine NoPanic.normal ?_
            obtain ⟨bb, q12⟩ : ∃ b : Bool, v12 = .bool b := r12
            clear r3 r7 r8 r9 r10 r11 hBd
            subst q12
            have HB := Lib.hid hI.1
            clear hI
            go_wp2
            go_ret
            exact ⟨bb, rfl, fun _ => HF.out, HB.out⟩

end Go.Proofs.YtpmadgmjkljbgaaDoor

/-
  DERIVED: THE SHELF's CONTRACTS AT THIS DUMP, IN PLAIN WORDS (tools/lay-plain.mjs out of 'TrydShelf.lean', which tools/lay-shelf.mjs wrote): THE SAME DECLARATIONS UNDER THE SAME NAMES: 'import', 'namespace', 'open', 'def', 'theorem' AND NOTHING ELSE: no command of the shelf's: FOR A HAND-IN. Each laying: the table of numbers ('.._ren') and one theorem, a field a fact of the dump's own or the kernel's comparison; each contract: ONE APPLICATION.
-/
namespace Go.Proofs
open Go.Shelf
def Tryd.laysValid_ren : Go.Shelf.Ren := ⟨fun | 196 => 16 | 259 => 42 | n => n, fun | 9 => 9 | 4 => 4 | 3 => 3 | 5 => 5 | 12 => 12 | 119 => 79 | 0 => 0 | 46 => 49 | 139 => 82 | 138 => 81 | 53 => 85 | n => n, fun | 3 => 0 | 4 => 1 | n => n⟩
theorem Tryd.laysValid : Go.Proofs.Lays.n196 Tryd.prog Tryd.laysValid_ren := {
  mixed := by kernel_rfl
  f196 := Tryd.func16.trans (congrArg some (by kernel_rfl))
  f259 := Tryd.func42.trans (congrArg some (by kernel_rfl))
  t0 := Tryd.underlying0
  a0 := Tryd.isAgg0
  z0 := Tryd.sizeOf0
  v0 := Tryd.zeroValue0
  t3 := Tryd.underlying3
  a3 := Tryd.isAgg3
  z3 := Tryd.sizeOf3
  v3 := Tryd.zeroValue3
  t4 := Tryd.underlying4
  a4 := Tryd.isAgg4
  z4 := Tryd.sizeOf4
  v4 := Tryd.zeroValue4
  t5 := Tryd.underlying5
  a5 := Tryd.isAgg5
  z5 := Tryd.sizeOf5
  v5 := Tryd.zeroValue5
  t9 := Tryd.underlying9
  a9 := Tryd.isAgg9
  z9 := Tryd.sizeOf9
  v9 := Tryd.zeroValue9
  t12 := Tryd.underlying12
  a12 := Tryd.isAgg12
  z12 := Tryd.sizeOf12
  v12 := Tryd.zeroValue12
  t46 := Tryd.underlying49
  a46 := Tryd.isAgg49
  z46 := Tryd.sizeOf49
  v46 := Tryd.zeroValue49
  t53 := Tryd.underlying85
  a53 := Tryd.isAgg85
  z53 := Tryd.sizeOf85
  v53 := Tryd.zeroValue85
  t119 := Tryd.underlying79
  a119 := Tryd.isAgg79
  z119 := Tryd.sizeOf79
  t138 := Tryd.underlying81
  a138 := Tryd.isAgg81
  z138 := Tryd.sizeOf81
  v138 := Tryd.zeroValue81
  t139 := Tryd.underlying82
  a139 := Tryd.isAgg82
  z139 := Tryd.sizeOf82
  v139 := Tryd.zeroValue82
  g3 := by kernel_rfl
  g4 := by kernel_rfl }
def Tryd.laysSplit_ren : Go.Shelf.Ren := ⟨fun | 146 => 43 | 221 => 67 | 268 => 74 | 138 => 75 | 143 => 76 | 195 => 77 | 197 => 78 | 218 => 79 | 219 => 80 | 260 => 81 | 217 => 82 | 225 => 83 | 224 => 84 | 267 => 85 | 266 => 86 | 314 => 87 | n => n, fun | 9 => 9 | 31 => 83 | 3 => 3 | 4 => 4 | 0 => 0 | 105 => 114 | 21 => 21 | 5 => 5 | 46 => 49 | 119 => 79 | 139 => 82 | 138 => 81 | 146 => 118 | 51 => 51 | n => n, fun | 1 => 2 | 3 => 0 | 4 => 1 | n => n⟩
theorem Tryd.laysSplit : Go.Proofs.Lays.n146 Tryd.prog Tryd.laysSplit_ren := {
  mixed := by kernel_rfl
  f138 := Tryd.func75.trans (congrArg some (by kernel_rfl))
  f143 := Tryd.func76.trans (congrArg some (by kernel_rfl))
  f146 := Tryd.func43.trans (congrArg some (by kernel_rfl))
  f195 := Tryd.func77.trans (congrArg some (by kernel_rfl))
  f197 := Tryd.func78.trans (congrArg some (by kernel_rfl))
  f217 := Tryd.func82.trans (congrArg some (by kernel_rfl))
  f218 := Tryd.func79.trans (congrArg some (by kernel_rfl))
  f219 := Tryd.func80.trans (congrArg some (by kernel_rfl))
  f221 := Tryd.func67.trans (congrArg some (by kernel_rfl))
  f224 := Tryd.func84.trans (congrArg some (by kernel_rfl))
  f225 := Tryd.func83.trans (congrArg some (by kernel_rfl))
  f260 := Tryd.func81.trans (congrArg some (by kernel_rfl))
  f266 := Tryd.func86.trans (congrArg some (by kernel_rfl))
  f267 := Tryd.func85.trans (congrArg some (by kernel_rfl))
  f268 := Tryd.func74.trans (congrArg some (by kernel_rfl))
  f314 := Tryd.func87.trans (congrArg some (by kernel_rfl))
  t0 := Tryd.underlying0
  a0 := Tryd.isAgg0
  z0 := Tryd.sizeOf0
  v0 := Tryd.zeroValue0
  t3 := Tryd.underlying3
  a3 := Tryd.isAgg3
  z3 := Tryd.sizeOf3
  v3 := Tryd.zeroValue3
  t4 := Tryd.underlying4
  a4 := Tryd.isAgg4
  z4 := Tryd.sizeOf4
  v4 := Tryd.zeroValue4
  t5 := Tryd.underlying5
  a5 := Tryd.isAgg5
  z5 := Tryd.sizeOf5
  v5 := Tryd.zeroValue5
  t9 := Tryd.underlying9
  a9 := Tryd.isAgg9
  z9 := Tryd.sizeOf9
  v9 := Tryd.zeroValue9
  t21 := Tryd.underlying21
  a21 := Tryd.isAgg21
  z21 := Tryd.sizeOf21
  v21 := Tryd.zeroValue21
  t31 := Tryd.underlying83
  a31 := Tryd.isAgg83
  z31 := Tryd.sizeOf83
  v31 := Tryd.zeroValue83
  t46 := Tryd.underlying49
  a46 := Tryd.isAgg49
  z46 := Tryd.sizeOf49
  v46 := Tryd.zeroValue49
  t51 := Tryd.underlying51
  a51 := Tryd.isAgg51
  z51 := Tryd.sizeOf51
  v51 := Tryd.zeroValue51
  t105 := Tryd.underlying114
  a105 := Tryd.isAgg114
  z105 := Tryd.sizeOf114
  v105 := Tryd.zeroValue114
  t119 := Tryd.underlying79
  a119 := Tryd.isAgg79
  z119 := Tryd.sizeOf79
  t138 := Tryd.underlying81
  a138 := Tryd.isAgg81
  z138 := Tryd.sizeOf81
  v138 := Tryd.zeroValue81
  t139 := Tryd.underlying82
  a139 := Tryd.isAgg82
  z139 := Tryd.sizeOf82
  v139 := Tryd.zeroValue82
  t146 := Tryd.underlying118
  a146 := Tryd.isAgg118
  z146 := Tryd.sizeOf118
  v146 := Tryd.zeroValue118
  g1 := by kernel_rfl
  g3 := by kernel_rfl
  g4 := by kernel_rfl }
end Go.Proofs

/- Walks: NameOk, DottedOk (a bool is returned). -/
namespace Go.Proofs.YtpmadgmjkljbgaaDoor
open Go.RowKit

set_option maxRecDepth 100000 in
set_option maxHeartbeats 4000000 in
theorem NameOk_weak (s : ByteArray) (w : World) (hs : s.size ≤ 9223372036854775806) :
    Calls Tryd.prog 44 #[.string s] w fun e w' => OkB True w e w' := by
  go_enter Tryd.func44, Tryd.ntmps44
  by_cases h1 : s.size < 1
  · have h1' : (s.size : Int) < 1 := by omega
    go_wp2
    go_ret
    exact ⟨_, rfl, fun _ => trivial, Below.refl _ _⟩
  · by_cases h2 : 24 < s.size
    · have h1' : ¬ ((s.size : Int) < 1) := by omega
      have h2' : (24 : Int) < (s.size : Int) := by omega
      go_wp2
      go_ret
      exact ⟨_, rfl, fun _ => trivial, Below.refl _ _⟩
    · have h1' : ¬ ((s.size : Int) < 1) := by omega
      have h2' : ¬ ((24 : Int) < (s.size : Int)) := by omega
      go_wp2
      go_loopg [3] s.size (fun q s3 wr => ∃ k : Nat, k ≤ s.size ∧ s.size - k ≤ q ∧ s3 = .int .i64 k ∧ wr = w)
      case atStart => exact ⟨0, Nat.zero_le _, by omega, rfl, rfl⟩
      case round =>
        obtain ⟨k, hk, hq, rfl, rfl⟩ := hrel
        by_cases hlt : k < s.size
        · have hltI : (k : Int) < (s.size : Int) := by omega
          go_wp2
          all_goals first
            | (go_roundg (s.size - (k + 1))
               case measure => omega
               case rel => exact ⟨k + 1, by omega, by omega, by go_num, rfl⟩)
            | (go_ret
               exact ⟨_, rfl, fun _ => trivial, Below.refl _ _⟩)
        · have hltI : ¬ ((k : Int) < (s.size : Int)) := by omega
          go_wp2
          go_ret
          exact ⟨_, rfl, fun _ => trivial, Below.refl _ _⟩

theorem piece_size (sep : ByteArray) (sv : Nat) : ∀ (k : Nat) (s : ByteArray) (p : ByteArray), p ∈ Lib.splitB sep sv k s → p.size ≤ s.size
  | 0, s, p, h => by
    rw [Lib.splitB_zero] at h
    simp at h
    rw [h]; exact Nat.le_refl _
  | k + 1, s, p, h => by
    unfold Lib.splitB at h
    split at h
    · simp at h
      rw [h]; exact Nat.le_refl _
    · rcases List.mem_cons.1 h with h | h
      · rw [h]; simp [ByteArray.size_extract]; omega
      · have := piece_size sep sv k _ p h
        simp [ByteArray.size_extract] at this
        omega

/-- What the library's variables hold. -/
def Glob (w : World) : Prop := (∃ m : Int, w.cell? ⟨2, 0, none⟩ = some (.int .i64 m)) ∧ Lib.Utf8Tabs 0 1 w
theorem Glob.below {w w' : World} (h : Glob w) (hb : Below w.heap.size w w') : Glob w' := by
  obtain ⟨⟨m, hm⟩, h2⟩ := h
  exact ⟨⟨m, by rw [hb.cell (World.block_lt_of_cell? _ _ hm)]; exact hm⟩, Utf8Tabs_below h2 hb⟩

set_option maxRecDepth 100000 in
set_option maxHeartbeats 4000000 in
theorem DottedOk_weak (s : ByteArray) (w : World) (hs : s.size ≤ 2000000) (hG : Glob w) :
    Calls Tryd.prog 17 #[.string s] w fun e w' => OkB True w e w' := by
  obtain ⟨⟨m, hm⟩, -⟩ := hG
  have HS := Lib.hid (Any.strings_Split Tryd.laysSplit (by kernel_rfl) s ⟨#[46]⟩ m w (by omega) hm (by decide))
  obtain ⟨ps, hps⟩ : ∃ ps, ps = Lib.splitB ⟨#[46]⟩ 0 (Lib.countB s ⟨#[46]⟩) s := ⟨_, rfl⟩
  have hlen : Lib.countB s ⟨#[46]⟩ + 1 = ps.length := by rw [hps]; exact (Lib.splitB_all ⟨#[46]⟩ (by decide) 0 _ s rfl).symm
  have HP := Lib.hid (fun p (h : p ∈ ps) => piece_size ⟨#[46]⟩ 0 _ s p (hps ▸ h))
  have hcl := Lib.countB_le ⟨#[46]⟩ (by decide) s.size s (Nat.le_refl _)
  rw [← hps, hlen] at HS
  have hpl : ps.length ≤ 2000001 := by omega
  clear hps hcl hlen hm
  have hb := ext_alloc w (.cells (ps.map Value.string).toArray 9)
  have hx := heap_new w (.cells (ps.map Value.string).toArray 9)
  go_enter Tryd.func17, Tryd.ntmps17
  go_wp2_with fail
  refine HS.out.mono ?_
  rintro e w1 ⟨rfl, hw1⟩
  have hb1 : Below w.heap.size w w1 := by rw [hw1]; exact hb
  have hx1 : w1.heap[w.heap.size]? = some (.cells (ps.map Value.string).toArray 9 (0, 0)) := by rw [hw1]; exact hx
  clear hw1 hb hx HS
  go_wp2
  go_loopg [8] ps.length (fun q s8 wr => ∃ k : Nat, k ≤ ps.length ∧ ps.length - k ≤ q ∧ s8 = .int .i64 k ∧ Below w1.heap.size w1 wr)
  case atStart => exact ⟨0, Nat.zero_le _, by omega, rfl, Below.refl _ _⟩
  case round =>
    obtain ⟨k, hk, hq, rfl, hbr⟩ := hrel
    by_cases hlt : k < ps.length
    · have hx2 := (hbr.block _ (box_lt hx1)).trans hx1
      have hc := box_cell hx2 k
      have hc' : wr.cell? ⟨w.heap.size, k, none⟩ = some (.string ps[k]) := by rw [hc]; simp [hlt]
      have HN := Lib.hid (NameOk_weak ps[k] wr (by have := HP.out ps[k] (List.getElem_mem hlt); omega))
      clear hc hx2
      generalize ps[k] = p at *
      go_wp2_with fail
      refine HN.out.mono ?_
      rintro e w3 ⟨b, rfl, -, hb3⟩
      cases b
      · go_wp2
        go_ret
        exact ⟨_, rfl, fun _ => trivial, ext_trans hb1 (ext_trans hbr hb3)⟩
      · go_wp2
        go_roundg (ps.length - (k + 1))
        case measure => omega
        case rel => exact ⟨k + 1, by omega, by omega, by go_num, ext_trans hbr hb3⟩
    · go_wp2
      go_ret
      exact ⟨_, rfl, fun _ => trivial, ext_trans hb1 hbr⟩
end Go.Proofs.YtpmadgmjkljbgaaDoor
