/- Part 8 of the proof. -/
import Derived.Test.YtpmadgmjkljbgaaDoorM7

/- Walk: Ratio.Plus (brindlewoodref3). -/
namespace Go.Proofs.YtpmadgmjkljbgaaDoor
open Go.RowKit

theorem intAt_other {W W' : World} {M : Nat} {old : List Value} {t : TypeId} {v : Value} {n : Int} (h : IntAt W v n) (hM : W.heap[M]? = some (.cells old.toArray t (0, 0))) (hne : NoInt old) (hk : ∀ k, k < W.heap.size → k ≠ M → W'.heap[k]? = W.heap[k]?) : IntAt W' v n := by
  obtain ⟨b, nv, k, rfl, h1, h2⟩ := h
  exact ⟨b, nv, k, rfl, h1.other hM hne hk, h2⟩
theorem ratAt_other {W W' : World} {M : Nat} {old : List Value} {t : TypeId} {v : Value} {n : Int} {d : Nat} (h : RatAt W v n d) (hM : W.heap[M]? = some (.cells old.toArray t (0, 0))) (hne : NoInt old) (hk : ∀ k, k < W.heap.size → k ≠ M → W'.heap[k]? = W.heap[k]?) : RatAt W' v n d := by
  obtain ⟨b, nv, dv, k, rfl, h1, h2, h3⟩ := h
  exact ⟨b, nv, dv, k, rfl, h1.other hM hne hk, h2.other hM hne hk, h3⟩
theorem dig_natCast (d : Nat) : ((d : Int)).natAbs = d := Int.natAbs_natCast d
theorem natAt_int {W : World} {v : Value} {d : Nat} (h : NatAt W v d) : IntAt W (.agg #[.bool false, v]) (d : Int) := ⟨false, v, d, rfl, h, rfl⟩
theorem dig_add {a b k : Nat} (ha : (dig a).length ≤ k) (hb : (dig b).length ≤ k) : (dig (a + b)).length ≤ k + 1 := by
  refine dig_length_le ?_
  have h1 := dig_lt a
  have h2 := dig_lt b
  have h3 : 65536 ^ (dig a).length ≤ 65536 ^ k := Nat.pow_le_pow_right (by omega) ha
  have h4 : 65536 ^ (dig b).length ≤ 65536 ^ k := Nat.pow_le_pow_right (by omega) hb
  rw [Nat.pow_succ]
  omega

set_option maxRecDepth 100000 in
set_option maxHeartbeats 2000000 in
theorem RatPlus_any (xv yv : Value) (z1 z2 : Int) (d1 d2 : Nat) (w : World) (hx : RatAt w xv z1 d1) (hy : RatAt w yv z2 d2) (hd1 : 0 < d1) (hd2 : 0 < d2) (nz1 : (dig z1.natAbs).length ≤ 40000) (nz2 : (dig z2.natAbs).length ≤ 40000) (nd1 : (dig d1).length ≤ 40000) (nd2 : (dig d2).length ≤ 40000) :
    Calls Tryd.prog 22 #[xv, yv] w fun e w' => ∃ v', e = .returned v' ∧ RatAt w' v' (lowZ (z1 * d2 + z2 * d1) (d1 * d2)) (lowD (z1 * d2 + z2 * d1) (d1 * d2)) ∧ Below w.heap.size w w' := by
  obtain ⟨b1, v1, u1, m1, rfl, hm1, hn1, rfl⟩ := hx
  obtain ⟨b2, v2, u2, m2, rfl, hm2, hn2, rfl⟩ := hy
  have k1 : (dig (ZI b1 m1 * (d2 : Int)).natAbs).length ≤ 80000 := by rw [Int.natAbs_mul, dig_natCast]; exact dig_mul nz1 nd2
  have k2 : (dig (ZI b2 m2 * (d1 : Int)).natAbs).length ≤ 80000 := by rw [Int.natAbs_mul, dig_natCast]; exact dig_mul nz2 nd1
  have HN1 := Lib.hid (show (dig (ZI b1 m1 * (d2 : Int) + ZI b2 m2 * (d1 : Int)).natAbs).length ≤ 100000 from Nat.le_trans (dig_len_mono (Int.natAbs_add_le _ _)) (Nat.le_trans (dig_add k1 k2) (by omega)))
  have HN2 := Lib.hid (show (dig (d1 * d2)).length ≤ 100000 from Nat.le_trans (dig_mul nd1 nd2) (by omega))
  have HT1 := Lib.hid (fun W (h : Below w.heap.size w W) => IntTimes_any _ _ (ZI b1 m1) (d2 : Int) W ⟨b1, v1, m1, rfl, hm1.below h, rfl⟩ (natAt_int (hn2.below h)) (by omega) (by rw [dig_natCast]; omega))
  have HT2 := Lib.hid (fun W (h : Below w.heap.size w W) => IntTimes_any _ _ (ZI b2 m2) (d1 : Int) W ⟨b2, v2, m2, rfl, hm2.below h, rfl⟩ (natAt_int (hn1.below h)) (by omega) (by rw [dig_natCast]; omega))
  have HT3 := Lib.hid (fun W (h : Below w.heap.size w W) => Times_any _ _ d1 d2 W (hn1.below h) (hn2.below h) (by omega) (by omega))
  have HP := Lib.hid (fun (u5 u6 : Value) W (h5 : IntAt W u5 (ZI b1 m1 * (d2 : Int))) (h6 : IntAt W u6 (ZI b2 m2 * (d1 : Int))) => IntPlus_any u5 u6 _ _ W h5 h6 (by omega) (by omega))
  obtain ⟨a1, c1, rfl⟩ := hm1.slice
  obtain ⟨a2, c2, rfl⟩ := hm2.slice
  obtain ⟨p1, r1, rfl⟩ := hn1.slice
  obtain ⟨p2, r2, rfl⟩ := hn2.slice
  clear hm1 hm2 hn1 hn2 nz1 nz2 nd1 nd2 k1 k2
  generalize (dig m1).length = l1 at *
  generalize (dig m2).length = l2 at *
  generalize (dig d1).length = q1 at *
  generalize (dig d2).length = q2 at *
  have hal := alloc3 w (.cells #[.bool b1, .slice a1 l1 c1, .slice p1 q1 r1] 43) (.cells #[.bool b2, .slice a2 l2 c2, .slice p2 q2 r2] 43) (.cells #[.bool false, .slice none 0 0, .slice none 0 0] 43)
  go_enter Tryd.func22, Tryd.ntmps22
  go_upto_region 1 with fail
  generalize (((w.alloc (.cells #[.bool b1, .slice a1 l1 c1, .slice p1 q1 r1] 43)).alloc (.cells #[.bool b2, .slice a2 l2 c2, .slice p2 q2 r2] 43)).alloc (.cells #[.bool false, .slice none 0 0, .slice none 0 0] 43)) = w1 at *
  obtain ⟨hb1, h1, h2, h3⟩ := hal
  have hB1 : Bxs [(w.heap.size, (.cells #[.bool b1, .slice a1 l1 c1, .slice p1 q1 r1] 43)), (w.heap.size + 1, (.cells #[.bool b2, .slice a2 l2 c2, .slice p2 q2 r2] 43))] w w1 := ⟨hb1, fun x hx => by
    simp only [List.mem_cons, List.not_mem_nil, or_false] at hx
    rcases hx with rfl | rfl
    · exact h1
    · exact h2⟩
  have hBd := hB1.drew
  clear hb1 h1 h2 hB1
  refine wp_region_noPanic ?_
  refine wp_region_L (S := fun _ W => Bxs [(w.heap.size, (.cells #[.bool b1, .slice a1 l1 c1, .slice p1 q1 r1] 43)), (w.heap.size + 1, (.cells #[.bool b2, .slice a2 l2 c2, .slice p2 q2 r2] 43))] w W) (by kernel_rfl) ?_
  refine wpAnyL_take (T := fun _ => True) (i := 0) (v := ?vva0) rfl (by kernel_rfl) (by kernel_rfl) (by kernel_rfl) (fun _ _ _ h => h) (fun _ _ => Iff.rfl) (fun _ _ _ _ _ => trivial) (Closed.of_B (by kernel_rfl)) (Or.inl ⟨by kernel_rfl, ?hya0⟩) hBd ?resta0
  case hya0 => (intro w _; go_simp; with_reducible rfl)
  go_simp
  refine wpAnyL_take (T := fun W => Bxs [(w.heap.size, (.cells #[.bool b1, .slice a1 l1 c1, .slice p1 q1 r1] 43)), (w.heap.size + 1, (.cells #[.bool b2, .slice a2 l2 c2, .slice p2 q2 r2] 43))] w W) (i := 1) (v := ?vva1) rfl (by kernel_rfl) (by kernel_rfl) (by kernel_rfl) (fun _ _ _ h => h) (fun _ _ => Iff.rfl) (fun _ _ _ _ h => h) (Closed.of_B (by kernel_rfl)) (Or.inl ⟨by kernel_rfl, ?hya1⟩) hBd ?resta1
  case hya1 =>
    intro W hW
    have hx0 := hW.2 ((w.heap.size, (.cells #[.bool b1, .slice a1 l1 c1, .slice p1 q1 r1] 43)) : Nat × Obj) (by simp)
    have dx0x0 := box_cell hx0 0
    have dx0x1 := box_cell hx0 1
    simp only [List.getElem?_toArray, List.getElem?_cons_zero, List.getElem?_cons_succ] at dx0x0 dx0x1
    clear hW
    go_simp; with_reducible rfl
  go_simp
  refine wpAnyL_take (T := fun _ => True) (i := 2) (v := ?vva2) rfl (by kernel_rfl) (by kernel_rfl) (by kernel_rfl) (fun _ _ _ h => h) (fun _ _ => Iff.rfl) (fun _ _ _ _ _ => trivial) (Closed.of_B (by kernel_rfl)) (Or.inl ⟨by kernel_rfl, ?hya2⟩) hBd ?resta2
  case hya2 => (intro w _; go_simp; with_reducible rfl)
  go_simp
  refine wpAnyL_take (T := fun W => Bxs [(w.heap.size, (.cells #[.bool b1, .slice a1 l1 c1, .slice p1 q1 r1] 43)), (w.heap.size + 1, (.cells #[.bool b2, .slice a2 l2 c2, .slice p2 q2 r2] 43))] w W) (i := 3) (v := ?vva3) rfl (by kernel_rfl) (by kernel_rfl) (by kernel_rfl) (fun _ _ _ h => h) (fun _ _ => Iff.rfl) (fun _ _ _ _ h => h) (Closed.of_B (by kernel_rfl)) (Or.inl ⟨by kernel_rfl, ?hya3⟩) hBd ?resta3
  case hya3 =>
    intro W hW
    have hx1 := hW.2 ((w.heap.size + 1, (.cells #[.bool b2, .slice a2 l2 c2, .slice p2 q2 r2] 43)) : Nat × Obj) (by simp)
    have dx1x2 := box_cell hx1 2
    simp only [List.getElem?_toArray, List.getElem?_cons_zero, List.getElem?_cons_succ] at dx1x2
    clear hW
    go_simp; with_reducible rfl
  go_simp
  refine wpAnyL_take (T := fun _ => True) (i := 4) (v := ?vva4) rfl (by kernel_rfl) (by kernel_rfl) (by kernel_rfl) (fun _ _ _ h => h) (fun _ _ => Iff.rfl) (fun _ _ _ _ _ => trivial) (Closed.of_B (by kernel_rfl)) (Or.inl ⟨by kernel_rfl, ?hya4⟩) hBd ?resta4
  case hya4 => (intro w _; go_simp; with_reducible rfl)
  go_simp
  refine wpAnyL_take (T := fun _ => True) (i := 6) (v := ?vva6) rfl (by kernel_rfl) (by kernel_rfl) (by kernel_rfl) (fun _ _ _ h => h) (fun _ _ => Iff.rfl) (fun _ _ _ _ _ => trivial) (Closed.of_B (by kernel_rfl)) (Or.inl ⟨by kernel_rfl, ?hya6⟩) hBd ?resta6
  case hya6 => (intro w _; go_simp; with_reducible rfl)
  go_simp
  refine wpAnyL_take (T := fun W => Bxs [(w.heap.size, (.cells #[.bool b1, .slice a1 l1 c1, .slice p1 q1 r1] 43)), (w.heap.size + 1, (.cells #[.bool b2, .slice a2 l2 c2, .slice p2 q2 r2] 43))] w W) (i := 7) (v := ?vva7) rfl (by kernel_rfl) (by kernel_rfl) (by kernel_rfl) (fun _ _ _ h => h) (fun _ _ => Iff.rfl) (fun _ _ _ _ h => h) (Closed.of_B (by kernel_rfl)) (Or.inl ⟨by kernel_rfl, ?hya7⟩) hBd ?resta7
  case hya7 =>
    intro W hW
    have hx1 := hW.2 ((w.heap.size + 1, (.cells #[.bool b2, .slice a2 l2 c2, .slice p2 q2 r2] 43)) : Nat × Obj) (by simp)
    have dx1x0 := box_cell hx1 0
    have dx1x1 := box_cell hx1 1
    simp only [List.getElem?_toArray, List.getElem?_cons_zero, List.getElem?_cons_succ] at dx1x0 dx1x1
    clear hW
    go_simp; with_reducible rfl
  go_simp
  refine wpAnyL_take (T := fun _ => True) (i := 8) (v := ?vva8) rfl (by kernel_rfl) (by kernel_rfl) (by kernel_rfl) (fun _ _ _ h => h) (fun _ _ => Iff.rfl) (fun _ _ _ _ _ => trivial) (Closed.of_B (by kernel_rfl)) (Or.inl ⟨by kernel_rfl, ?hya8⟩) hBd ?resta8
  case hya8 => (intro w _; go_simp; with_reducible rfl)
  go_simp
  refine wpAnyL_take (T := fun W => Bxs [(w.heap.size, (.cells #[.bool b1, .slice a1 l1 c1, .slice p1 q1 r1] 43)), (w.heap.size + 1, (.cells #[.bool b2, .slice a2 l2 c2, .slice p2 q2 r2] 43))] w W) (i := 9) (v := ?vva9) rfl (by kernel_rfl) (by kernel_rfl) (by kernel_rfl) (fun _ _ _ h => h) (fun _ _ => Iff.rfl) (fun _ _ _ _ h => h) (Closed.of_B (by kernel_rfl)) (Or.inl ⟨by kernel_rfl, ?hya9⟩) hBd ?resta9
  case hya9 =>
    intro W hW
    have hx0 := hW.2 ((w.heap.size, (.cells #[.bool b1, .slice a1 l1 c1, .slice p1 q1 r1] 43)) : Nat × Obj) (by simp)
    have dx0x2 := box_cell hx0 2
    simp only [List.getElem?_toArray, List.getElem?_cons_zero, List.getElem?_cons_succ] at dx0x2
    clear hW
    go_simp; with_reducible rfl
  go_simp
  refine wpAnyL_take (T := fun _ => True) (i := 10) (v := ?vva10) rfl (by kernel_rfl) (by kernel_rfl) (by kernel_rfl) (fun _ _ _ h => h) (fun _ _ => Iff.rfl) (fun _ _ _ _ _ => trivial) (Closed.of_B (by kernel_rfl)) (Or.inl ⟨by kernel_rfl, ?hya10⟩) hBd ?resta10
  case hya10 => (intro w _; go_simp; with_reducible rfl)
  go_simp
  refine wpAnyL_rows (R := fun i v _ W => match i with | 5 => IntAt W v (ZI b1 m1 * (d2 : Int)) | 11 => IntAt W v (ZI b2 m2 * (d1 : Int)) | 12 => ∃ M, v = .pointer (some ⟨M, 0, none⟩) | 13 => ∃ M, v = .pointer (some ⟨M, 0, none⟩) | _ => True) (I := fun L vs W => Bxs [(w.heap.size, (.cells #[.bool b1, .slice a1 l1 c1, .slice p1 q1 r1] 43)), (w.heap.size + 1, (.cells #[.bool b2, .slice a2 l2 c2, .slice p2 q2 r2] 43))] w W ∧ W.heap[w.heap.size + 1 + 1]? = some (.cells #[.bool false, .slice none 0 0, .slice none 0 0] 43 (0, 0)) ∧ Two 41 2 41 2 (w.heap.size + 1 + 1 + 1) (IntC (ZI b1 m1 * (d2 : Int))) (IntC (ZI b2 m2 * (d1 : Int))) 12 14 13 15 L vs W) [((5, some 12, []), []), ((11, some 18, []), []), ((12, some 5, []), []), ((13, some 6, []), []), ((14, none, [5, 12]), [(5, some 12, []), (12, some 5, [])]), ((15, none, [11, 13]), [(11, some 18, []), (13, some 6, [])])] (by kernel_rfl) (by decide) (fun _ _ _ h => h.1) (fun vs => ⟨hBd, h3, Two.start rfl rfl⟩) ?taba ?fina
  case taba =>
    refine TabAll.cons rfl (by kernel_rfl) (fun L vs W hsz hcl hn hd hdn hI K hK => ?_) ?_
    · simp only [putsD, Act.put, List.setIfInBounds_toArray, List.set_cons_zero, List.set_cons_succ] at hK ⊢
      clear hd hdn
      go_simp
      refine (HT1.out W hI.1.1).mono ?_
      rintro e W3 ⟨v', rfl, hv, hb3⟩
      refine hK _ v' _ (by rfl) (fun i u l hij hL h => ?_) hv ⟨hI.1.below hb3, (hb3.block _ (box_lt hI.2.1)).trans hI.2.1, hI.2.2.below (IntC.good _) (IntC.good _) hb3 5 v' (by decide) (by decide) (by decide) (by decide)⟩
      · match i, hij, hL, h with
        | 5, _, _, h => exact IntAt.below h hb3
        | 11, _, _, h => exact IntAt.below h hb3
        | 12, _, _, h => exact h
        | 13, _, _, h => exact h
        | 0, _, _, _ | 1, _, _, _ | 2, _, _, _ | 3, _, _, _ | 4, _, _, _ | 6, _, _, _ | 7, _, _, _ | 8, _, _, _ | 9, _, _, _ | 10, _, _, _ | _ + 14, _, _, _ => trivial
    refine TabAll.cons rfl (by kernel_rfl) (fun L vs W hsz hcl hn hd hdn hI K hK => ?_) ?_
    · simp only [putsD, Act.put, List.setIfInBounds_toArray, List.set_cons_zero, List.set_cons_succ] at hK ⊢
      clear hd hdn
      go_simp
      refine (HT2.out W hI.1.1).mono ?_
      rintro e W3 ⟨v', rfl, hv, hb3⟩
      refine hK _ v' _ (by rfl) (fun i u l hij hL h => ?_) hv ⟨hI.1.below hb3, (hb3.block _ (box_lt hI.2.1)).trans hI.2.1, hI.2.2.below (IntC.good _) (IntC.good _) hb3 11 v' (by decide) (by decide) (by decide) (by decide)⟩
      · match i, hij, hL, h with
        | 5, _, _, h => exact IntAt.below h hb3
        | 11, _, _, h => exact IntAt.below h hb3
        | 12, _, _, h => exact h
        | 13, _, _, h => exact h
        | 0, _, _, _ | 1, _, _, _ | 2, _, _, _ | 3, _, _, _ | 4, _, _, _ | 6, _, _, _ | 7, _, _, _ | 8, _, _, _ | 9, _, _, _ | 10, _, _, _ | _ + 14, _, _, _ => trivial
    refine TabAll.cons rfl (by kernel_rfl) (fun L vs W hsz hcl hn hd hdn hI K hK => ?_) ?_
    · simp only [putsD, Act.put, List.setIfInBounds_toArray, List.set_cons_zero, List.set_cons_succ] at hK ⊢
      clear hd hdn
      have hsz1 : w.heap.size + 1 + 1 + 1 ≤ W.heap.size := by have := box_lt hI.2.1; omega
      have hs := hcl.notYet (show edgeB .any _ 14 12 = true by kernel_rfl) hn
      go_simp
      refine hK _ (.pointer (some ⟨W.heap.size, 0, none⟩)) _ (by rfl) (fun i u l hij hL h => ?_) ⟨_, rfl⟩ ⟨hI.1.below (ext_alloc W _), box_alloc hI.2.1 _, hI.2.2.new1 (IntC.good _) (IntC.good _) hs hsz1 [.bool false, .slice none 0 0] rfl (by intro x hx; simp only [List.mem_cons, List.not_mem_nil, or_false] at hx; rcases hx with rfl | rfl <;> simp) (by decide) (by decide) (by decide)⟩
      · match i, hij, hL, h with
        | 5, _, _, h => exact IntAt.below h (ext_alloc W _)
        | 11, _, _, h => exact IntAt.below h (ext_alloc W _)
        | 12, _, _, h => exact h
        | 13, _, _, h => exact h
        | 0, _, _, _ | 1, _, _, _ | 2, _, _, _ | 3, _, _, _ | 4, _, _, _ | 6, _, _, _ | 7, _, _, _ | 8, _, _, _ | 9, _, _, _ | 10, _, _, _ | _ + 14, _, _, _ => trivial
    refine TabAll.cons rfl (by kernel_rfl) (fun L vs W hsz hcl hn hd hdn hI K hK => ?_) ?_
    · simp only [putsD, Act.put, List.setIfInBounds_toArray, List.set_cons_zero, List.set_cons_succ] at hK ⊢
      clear hd hdn
      have hsz1 : w.heap.size + 1 + 1 + 1 ≤ W.heap.size := by have := box_lt hI.2.1; omega
      have hs := hcl.notYet (show edgeB .any _ 15 13 = true by kernel_rfl) hn
      go_simp
      refine hK _ (.pointer (some ⟨W.heap.size, 0, none⟩)) _ (by rfl) (fun i u l hij hL h => ?_) ⟨_, rfl⟩ ⟨hI.1.below (ext_alloc W _), box_alloc hI.2.1 _, hI.2.2.new2 (IntC.good _) (IntC.good _) hs hsz1 [.bool false, .slice none 0 0] rfl (by intro x hx; simp only [List.mem_cons, List.not_mem_nil, or_false] at hx; rcases hx with rfl | rfl <;> simp) (by decide) (by decide) (by decide)⟩
      · match i, hij, hL, h with
        | 5, _, _, h => exact IntAt.below h (ext_alloc W _)
        | 11, _, _, h => exact IntAt.below h (ext_alloc W _)
        | 12, _, _, h => exact h
        | 13, _, _, h => exact h
        | 0, _, _, _ | 1, _, _, _ | 2, _, _, _ | 3, _, _, _ | 4, _, _, _ | 6, _, _, _ | 7, _, _, _ | 8, _, _, _ | 9, _, _, _ | 10, _, _, _ | _ + 14, _, _, _ => trivial
    refine TabAll.cons rfl (by kernel_rfl) (fun L vs W hsz hcl hn hd hdn hI K hK => ?_) ?_
    · simp only [putsD, Act.put, List.setIfInBounds_toArray, List.set_cons_zero, List.set_cons_succ] at hK ⊢
      have r5 := hd.1
      have r12 := hd.2.1
      have hda : L.getD 12 false = true := hdn.2.1
      have hbx := hI.2.2.1 hda
      have HT := Lib.hid hI.2.2
      have HB := Lib.hid hI.1
      have HO := Lib.hid hI.2.1
      clear hI
      generalize hv5 : vs 5 = v5 at *
      have HV5 := Lib.hid hv5
      clear hv5
      generalize hv12 : vs 12 = v12 at *
      have HV12 := Lib.hid hv12
      clear hv12
      clear hd hdn
      have q5 : IntAt W v5 (ZI b1 m1 * (d2 : Int)) := r5
      obtain ⟨b5, nv5, k5, rfl, hn5, hz5⟩ := q5
      obtain ⟨M, old, rfl, hBM, hM, hno, hlen, -⟩ := hbx
      obtain ⟨x0, x1, rfl⟩ := two_cells hlen
      obtain ⟨a5, c5, rfl⟩ := hn5.slice
      generalize (dig k5).length = l5 at *
      have g0 := box_cell hM 0
      have g1 := box_cell hM 1
      have f0 := box_frozen hM 0
      have f1 := box_frozen hM 1
      simp only [List.getElem?_toArray, List.getElem?_cons_zero, List.getElem?_cons_succ] at g0 g1
      have HS := Lib.hid (store2 hM (.bool b5) (.slice a5 l5 c5))
      have HM := Lib.hid hM
      have HN := Lib.hid hn5
      have HDA := Lib.hid hda
      clear hM hn5 hcl hn hsz hda
      clear r5 r12
      go_simp
      refine hK _ undef _ (by rfl) (fun i u l hij hL h => ?_) trivial ⟨HB.out.stored (N := M) (by omega) (by intro x hx; simp only [List.mem_cons, List.not_mem_nil, or_false] at hx; rcases hx with rfl | rfl <;> simp only <;> omega) [(0, .bool b5), (1, .slice a5 l5 c5)], (HS.out.2 _ (box_lt HO.out) (by omega)).trans HO.out, HT.out.fill1 (IntC.good _) (IntC.good _) HDA.out HV12.out HM.out hno hBM HS.out.1 HS.out.2 (IntC.noInt ⟨_, _, _, rfl, HN.out, hz5⟩) rfl ⟨_, _, _, rfl, HN.out, hz5⟩ undef (by decide) (by decide) (by decide)⟩
      · match i, hij, hL, h with
        | 5, _, _, h => exact intAt_other h HM.out hno HS.out.2
        | 11, _, _, h => exact intAt_other h HM.out hno HS.out.2
        | 12, _, _, h => exact h
        | 13, _, _, h => exact h
        | 0, _, _, _ | 1, _, _, _ | 2, _, _, _ | 3, _, _, _ | 4, _, _, _ | 6, _, _, _ | 7, _, _, _ | 8, _, _, _ | 9, _, _, _ | 10, _, _, _ | _ + 14, _, _, _ => trivial
    refine TabAll.cons rfl (by kernel_rfl) (fun L vs W hsz hcl hn hd hdn hI K hK => ?_) ?_
    · simp only [putsD, Act.put, List.setIfInBounds_toArray, List.set_cons_zero, List.set_cons_succ] at hK ⊢
      have r11 := hd.1
      have r13 := hd.2.1
      have hda : L.getD 13 false = true := hdn.2.1
      have hbx := hI.2.2.2.1 hda
      have HT := Lib.hid hI.2.2
      have HB := Lib.hid hI.1
      have HO := Lib.hid hI.2.1
      clear hI
      generalize hv11 : vs 11 = v11 at *
      have HV11 := Lib.hid hv11
      clear hv11
      generalize hv13 : vs 13 = v13 at *
      have HV13 := Lib.hid hv13
      clear hv13
      clear hd hdn
      have q11 : IntAt W v11 (ZI b2 m2 * (d1 : Int)) := r11
      obtain ⟨b5, nv5, k5, rfl, hn5, hz5⟩ := q11
      obtain ⟨M, old, rfl, hBM, hM, hno, hlen, -⟩ := hbx
      obtain ⟨x0, x1, rfl⟩ := two_cells hlen
      obtain ⟨a5, c5, rfl⟩ := hn5.slice
      generalize (dig k5).length = l5 at *
      have g0 := box_cell hM 0
      have g1 := box_cell hM 1
      have f0 := box_frozen hM 0
      have f1 := box_frozen hM 1
      simp only [List.getElem?_toArray, List.getElem?_cons_zero, List.getElem?_cons_succ] at g0 g1
      have HS := Lib.hid (store2 hM (.bool b5) (.slice a5 l5 c5))
      have HM := Lib.hid hM
      have HN := Lib.hid hn5
      have HDA := Lib.hid hda
      clear hM hn5 hcl hn hsz hda
      clear r11 r13
      go_simp
      refine hK _ undef _ (by rfl) (fun i u l hij hL h => ?_) trivial ⟨HB.out.stored (N := M) (by omega) (by intro x hx; simp only [List.mem_cons, List.not_mem_nil, or_false] at hx; rcases hx with rfl | rfl <;> simp only <;> omega) [(0, .bool b5), (1, .slice a5 l5 c5)], (HS.out.2 _ (box_lt HO.out) (by omega)).trans HO.out, HT.out.fill2 (IntC.good _) (IntC.good _) HDA.out HV13.out HM.out hno hBM HS.out.1 HS.out.2 (IntC.noInt ⟨_, _, _, rfl, HN.out, hz5⟩) rfl ⟨_, _, _, rfl, HN.out, hz5⟩ undef (by decide) (by decide) (by decide)⟩
      · match i, hij, hL, h with
        | 5, _, _, h => exact intAt_other h HM.out hno HS.out.2
        | 11, _, _, h => exact intAt_other h HM.out hno HS.out.2
        | 12, _, _, h => exact h
        | 13, _, _, h => exact h
        | 0, _, _, _ | 1, _, _, _ | 2, _, _, _ | 3, _, _, _ | 4, _, _, _ | 6, _, _, _ | 7, _, _, _ | 8, _, _, _ | 9, _, _, _ | 10, _, _, _ | _ + 14, _, _, _ => trivial
    exact TabAll.nil
  case fina =>
    intro vs W hd L hsz hall hI
    have r5 := hd.1
    have r11 := hd.2.1
    have r12 := hd.2.2.1
    have r13 := hd.2.2.2.1
    have r14 := hd.2.2.2.2.1
    have r15 := hd.2.2.2.2.2.1
    simp only [List.map_cons, List.map_nil, putsD, Act.put, List.setIfInBounds_toArray, List.set_cons_zero, List.set_cons_succ]
    have e1 := hI.2.2.end1 (hall 12 (by decide)) (hall 14 (by decide))
    have e2 := hI.2.2.end2 (hall 13 (by decide)) (hall 15 (by decide))
    generalize vs 5 = v5 at *
    generalize vs 11 = v11 at *
    generalize vs 12 = v12 at *
    generalize vs 13 = v13 at *
    generalize vs 14 = v14 at *
    generalize vs 15 = v15 at *
    clear hd hall hsz
    refine NoPanic.normal ?_
    obtain ⟨M5, old5, rfl, hB5, hM5, -, -, hc5⟩ := e1
    obtain ⟨M6, old6, rfl, hB6, hM6, -, -, hc6⟩ := e2
    obtain ⟨b5, nv5, k5, rfl, hn5, hz5⟩ := hc5 rfl
    obtain ⟨b6, nv6, k6, rfl, hn6, hz6⟩ := hc6 rfl
    obtain ⟨a5, c5, rfl⟩ := hn5.slice
    obtain ⟨a6, c6, rfl⟩ := hn6.slice
    have HI5 := Lib.hid (show IntAt W _ (ZI b1 m1 * (d2 : Int)) from ⟨b5, _, k5, rfl, hn5, hz5⟩)
    have HI6 := Lib.hid (show IntAt W _ (ZI b2 m2 * (d1 : Int)) from ⟨b6, _, k6, rfl, hn6, hz6⟩)
    generalize (dig k5).length = l5 at *
    generalize (dig k6).length = l6 at *
    have HB := Lib.hid hI.1
    have HO := Lib.hid hI.2.1
    clear hc5 hc6 hn5 hn6 hI hBd h3 r5 r11 r12 r13 r14 r15 hz5 hz6
    have hBx : Bxs [(w.heap.size, (.cells #[.bool b1, .slice a1 l1 c1, .slice p1 q1 r1] 43)), (w.heap.size + 1, (.cells #[.bool b2, .slice a2 l2 c2, .slice p2 q2 r2] 43)), (M5, (.cells #[.bool b5, .slice a5 l5 c5] 41)), (M6, (.cells #[.bool b6, .slice a6 l6 c6] 41))] w W := ⟨HB.out.1, fun x hx => by
      simp only [List.mem_cons, List.not_mem_nil, or_false] at hx
      rcases hx with rfl | rfl | rfl | rfl
      · exact HB.out.2 _ (by simp)
      · exact HB.out.2 _ (by simp)
      · exact hM5
      · exact hM6⟩
    clear hM5 hM6
    have hBd := hBx.drew
    clear hBx
    go_upto_region 2 with fail
    refine wp_region_noPanic ?_
    refine wp_region_L (S := fun _ W => Bxs [(w.heap.size, (.cells #[.bool b1, .slice a1 l1 c1, .slice p1 q1 r1] 43)), (w.heap.size + 1, (.cells #[.bool b2, .slice a2 l2 c2, .slice p2 q2 r2] 43)), (M5, (.cells #[.bool b5, .slice a5 l5 c5] 41)), (M6, (.cells #[.bool b6, .slice a6 l6 c6] 41))] w W) (by kernel_rfl) ?_
    refine wpAnyL_take (T := fun W => Bxs [(w.heap.size, (.cells #[.bool b1, .slice a1 l1 c1, .slice p1 q1 r1] 43)), (w.heap.size + 1, (.cells #[.bool b2, .slice a2 l2 c2, .slice p2 q2 r2] 43)), (M5, (.cells #[.bool b5, .slice a5 l5 c5] 41)), (M6, (.cells #[.bool b6, .slice a6 l6 c6] 41))] w W) (i := 0) (v := ?vvb0) rfl (by kernel_rfl) (by kernel_rfl) (by kernel_rfl) (fun _ _ _ h => h) (fun _ _ => Iff.rfl) (fun _ _ _ _ h => h) (Closed.of_B (by kernel_rfl)) (Or.inl ⟨by kernel_rfl, ?hyb0⟩) hBd ?restb0
    case hyb0 =>
      intro W hW
      have hx2 := hW.2 ((M5, (.cells #[.bool b5, .slice a5 l5 c5] 41)) : Nat × Obj) (by simp)
      have dx2x0 := box_cell hx2 0
      have dx2x1 := box_cell hx2 1
      simp only [List.getElem?_toArray, List.getElem?_cons_zero, List.getElem?_cons_succ] at dx2x0 dx2x1
      clear hW
      go_simp; with_reducible rfl
    go_simp
    refine wpAnyL_take (T := fun W => Bxs [(w.heap.size, (.cells #[.bool b1, .slice a1 l1 c1, .slice p1 q1 r1] 43)), (w.heap.size + 1, (.cells #[.bool b2, .slice a2 l2 c2, .slice p2 q2 r2] 43)), (M5, (.cells #[.bool b5, .slice a5 l5 c5] 41)), (M6, (.cells #[.bool b6, .slice a6 l6 c6] 41))] w W) (i := 1) (v := ?vvb1) rfl (by kernel_rfl) (by kernel_rfl) (by kernel_rfl) (fun _ _ _ h => h) (fun _ _ => Iff.rfl) (fun _ _ _ _ h => h) (Closed.of_B (by kernel_rfl)) (Or.inl ⟨by kernel_rfl, ?hyb1⟩) hBd ?restb1
    case hyb1 =>
      intro W hW
      have hx3 := hW.2 ((M6, (.cells #[.bool b6, .slice a6 l6 c6] 41)) : Nat × Obj) (by simp)
      have dx3x0 := box_cell hx3 0
      have dx3x1 := box_cell hx3 1
      simp only [List.getElem?_toArray, List.getElem?_cons_zero, List.getElem?_cons_succ] at dx3x0 dx3x1
      clear hW
      go_simp; with_reducible rfl
    go_simp
    refine wpAnyL_take (T := fun _ => True) (i := 3) (v := ?vvb3) rfl (by kernel_rfl) (by kernel_rfl) (by kernel_rfl) (fun _ _ _ h => h) (fun _ _ => Iff.rfl) (fun _ _ _ _ _ => trivial) (Closed.of_B (by kernel_rfl)) (Or.inl ⟨by kernel_rfl, ?hyb3⟩) hBd ?restb3
    case hyb3 => (intro w _; go_simp; with_reducible rfl)
    go_simp
    refine wpAnyL_take (T := fun W => Bxs [(w.heap.size, (.cells #[.bool b1, .slice a1 l1 c1, .slice p1 q1 r1] 43)), (w.heap.size + 1, (.cells #[.bool b2, .slice a2 l2 c2, .slice p2 q2 r2] 43)), (M5, (.cells #[.bool b5, .slice a5 l5 c5] 41)), (M6, (.cells #[.bool b6, .slice a6 l6 c6] 41))] w W) (i := 4) (v := ?vvb4) rfl (by kernel_rfl) (by kernel_rfl) (by kernel_rfl) (fun _ _ _ h => h) (fun _ _ => Iff.rfl) (fun _ _ _ _ h => h) (Closed.of_B (by kernel_rfl)) (Or.inl ⟨by kernel_rfl, ?hyb4⟩) hBd ?restb4
    case hyb4 =>
      intro W hW
      have hx0 := hW.2 ((w.heap.size, (.cells #[.bool b1, .slice a1 l1 c1, .slice p1 q1 r1] 43)) : Nat × Obj) (by simp)
      have dx0x2 := box_cell hx0 2
      simp only [List.getElem?_toArray, List.getElem?_cons_zero, List.getElem?_cons_succ] at dx0x2
      clear hW
      go_simp; with_reducible rfl
    go_simp
    refine wpAnyL_take (T := fun _ => True) (i := 5) (v := ?vvb5) rfl (by kernel_rfl) (by kernel_rfl) (by kernel_rfl) (fun _ _ _ h => h) (fun _ _ => Iff.rfl) (fun _ _ _ _ _ => trivial) (Closed.of_B (by kernel_rfl)) (Or.inl ⟨by kernel_rfl, ?hyb5⟩) hBd ?restb5
    case hyb5 => (intro w _; go_simp; with_reducible rfl)
    go_simp
    refine wpAnyL_take (T := fun W => Bxs [(w.heap.size, (.cells #[.bool b1, .slice a1 l1 c1, .slice p1 q1 r1] 43)), (w.heap.size + 1, (.cells #[.bool b2, .slice a2 l2 c2, .slice p2 q2 r2] 43)), (M5, (.cells #[.bool b5, .slice a5 l5 c5] 41)), (M6, (.cells #[.bool b6, .slice a6 l6 c6] 41))] w W) (i := 6) (v := ?vvb6) rfl (by kernel_rfl) (by kernel_rfl) (by kernel_rfl) (fun _ _ _ h => h) (fun _ _ => Iff.rfl) (fun _ _ _ _ h => h) (Closed.of_B (by kernel_rfl)) (Or.inl ⟨by kernel_rfl, ?hyb6⟩) hBd ?restb6
    case hyb6 =>
      intro W hW
      have hx1 := hW.2 ((w.heap.size + 1, (.cells #[.bool b2, .slice a2 l2 c2, .slice p2 q2 r2] 43)) : Nat × Obj) (by simp)
      have dx1x2 := box_cell hx1 2
      simp only [List.getElem?_toArray, List.getElem?_cons_zero, List.getElem?_cons_succ] at dx1x2
      clear hW
      go_simp; with_reducible rfl
    go_simp
    refine wpAnyL_rows (R := fun i v _ W => match i with | 2 => IntAt W v (ZI b1 m1 * (d2 : Int) + ZI b2 m2 * (d1 : Int)) | 7 => NatAt W v (d1 * d2) | 8 => RatAt W v (ZI b1 m1 * (d2 : Int) + ZI b2 m2 * (d1 : Int)) (d1 * d2) | 9 => RatAt W v (lowZ (ZI b1 m1 * (d2 : Int) + ZI b2 m2 * (d1 : Int)) (d1 * d2)) (lowD (ZI b1 m1 * (d2 : Int) + ZI b2 m2 * (d1 : Int)) (d1 * d2)) | 10 => BoxC 43 3 0 (RatC (lowZ (ZI b1 m1 * (d2 : Int) + ZI b2 m2 * (d1 : Int)) (d1 * d2)) (lowD (ZI b1 m1 * (d2 : Int) + ZI b2 m2 * (d1 : Int)) (d1 * d2))) W true (.pointer (some ⟨w.heap.size + 1 + 1, 0, none⟩)) | _ => True) (I := fun L _ W => Bxs [(w.heap.size, (.cells #[.bool b1, .slice a1 l1 c1, .slice p1 q1 r1] 43)), (w.heap.size + 1, (.cells #[.bool b2, .slice a2 l2 c2, .slice p2 q2 r2] 43)), (M5, (.cells #[.bool b5, .slice a5 l5 c5] 41)), (M6, (.cells #[.bool b6, .slice a6 l6 c6] 41))] w W ∧ IntAt W (.agg #[.bool b5, .slice a5 l5 c5]) (ZI b1 m1 * (d2 : Int)) ∧ IntAt W (.agg #[.bool b6, .slice a6 l6 c6]) (ZI b2 m2 * (d1 : Int)) ∧ (L.getD 10 false = false → W.heap[w.heap.size + 1 + 1]? = some (.cells #[.bool false, .slice none 0 0, .slice none 0 0] 43 (0, 0)))) [((2, some 21, []), []), ((7, some 26, []), []), ((8, some 27, [2, 7]), [(2, some 21, []), (7, some 26, [])]), ((9, some 28, [8]), [(8, some 27, [2, 7])]), ((10, none, [9]), [(9, some 28, [8])])] (by kernel_rfl) (by decide) (fun _ _ _ h => h.1) (fun vs => ⟨hBd, HI5.out, HI6.out, fun _ => HO.out⟩) ?tabb ?finb
    case tabb =>
      refine TabAll.cons rfl (by kernel_rfl) (fun L vs W hsz hcl hn hd hdn hI K hK => ?_) ?_
      · simp only [putsD, Act.put, List.setIfInBounds_toArray, List.set_cons_zero, List.set_cons_succ] at hK ⊢
        clear hd hdn
        go_simp
        refine (HP.out _ _ W hI.2.1 hI.2.2.1).mono ?_
        rintro e W3 ⟨v', rfl, hv, hb3⟩
        refine hK _ (v') _ (by rfl) (fun i u l hij hL h => ?_) (hv) (⟨hI.1.below hb3, hI.2.1.below hb3, hI.2.2.1.below hb3, fun hL => (hb3.block _ (box_lt (hI.2.2.2 (by rw [getD_set_ne false (by decide)] at hL; exact hL)))).trans (hI.2.2.2 (by rw [getD_set_ne false (by decide)] at hL; exact hL))⟩)
        · match i, hij, hL, h with
          | 2, _, _, h => exact IntAt.below h hb3
          | 7, _, _, h => exact NatAt.below h hb3
          | 8, _, _, h => exact RatAt.below h hb3
          | 9, _, _, h => exact RatAt.below h hb3
          | 10, _, _, h => exact (BoxC.below (RatC.good _ _)) h hb3
          | 0, _, _, _ | 1, _, _, _ | 3, _, _, _ | 4, _, _, _ | 5, _, _, _ | 6, _, _, _ | _ + 11, _, _, _ => trivial
      refine TabAll.cons rfl (by kernel_rfl) (fun L vs W hsz hcl hn hd hdn hI K hK => ?_) ?_
      · simp only [putsD, Act.put, List.setIfInBounds_toArray, List.set_cons_zero, List.set_cons_succ] at hK ⊢
        clear hd hdn
        go_simp
        refine (HT3.out W hI.1.1).mono ?_
        rintro e W3 ⟨v', rfl, hv, hb3⟩
        refine hK _ (v') _ (by rfl) (fun i u l hij hL h => ?_) (hv) (⟨hI.1.below hb3, hI.2.1.below hb3, hI.2.2.1.below hb3, fun hL => (hb3.block _ (box_lt (hI.2.2.2 (by rw [getD_set_ne false (by decide)] at hL; exact hL)))).trans (hI.2.2.2 (by rw [getD_set_ne false (by decide)] at hL; exact hL))⟩)
        · match i, hij, hL, h with
          | 2, _, _, h => exact IntAt.below h hb3
          | 7, _, _, h => exact NatAt.below h hb3
          | 8, _, _, h => exact RatAt.below h hb3
          | 9, _, _, h => exact RatAt.below h hb3
          | 10, _, _, h => exact (BoxC.below (RatC.good _ _)) h hb3
          | 0, _, _, _ | 1, _, _, _ | 3, _, _, _ | 4, _, _, _ | 5, _, _, _ | 6, _, _, _ | _ + 11, _, _, _ => trivial
      refine TabAll.cons rfl (by kernel_rfl) (fun L vs W hsz hcl hn hd hdn hI K hK => ?_) ?_
      · simp only [putsD, Act.put, List.setIfInBounds_toArray, List.set_cons_zero, List.set_cons_succ] at hK ⊢
        have r2 := hd.1
        have r7 := hd.2.1
        generalize hv2 : vs 2 = v2 at *
        have HV2 := Lib.hid hv2
        clear hv2
        generalize hv7 : vs 7 = v7 at *
        have HV7 := Lib.hid hv7
        clear hv7
        clear hd hdn
        have q2 : IntAt W v2 (ZI b1 m1 * (d2 : Int) + ZI b2 m2 * (d1 : Int)) := r2
        have q7 : NatAt W v7 (d1 * d2) := r7
        obtain ⟨b8, nv8, k8, rfl, hn8, hz8⟩ := q2
        clear r2 r7
        obtain ⟨a8, c8, rfl⟩ := hn8.slice
        obtain ⟨a7, c7, rfl⟩ := q7.slice
        have HN8 := Lib.hid hn8
        have HN7 := Lib.hid q7
        have HZ8 := Lib.hid hz8
        clear hn8 q7 hz8
        generalize (dig k8).length = l8 at *
        generalize (dig (d1 * d2)).length = l7 at *
        go_simp
        refine hK _ (.agg #[.bool b8, .slice a8 l8 c8, .slice a7 l7 c7]) _ (by rfl) (fun i u l hij hL h => h) (⟨b8, _, _, k8, rfl, HN8.out, HN7.out, HZ8.out⟩) (⟨hI.1, hI.2.1, hI.2.2.1, fun hL => hI.2.2.2 (by rw [getD_set_ne false (by decide)] at hL; exact hL)⟩)
      refine TabAll.cons rfl (by kernel_rfl) (fun L vs W hsz hcl hn hd hdn hI K hK => ?_) ?_
      · simp only [putsD, Act.put, List.setIfInBounds_toArray, List.set_cons_zero, List.set_cons_succ] at hK ⊢
        have r8 := hd.1
        generalize hv8 : vs 8 = v8 at *
        have HV8 := Lib.hid hv8
        clear hv8
        clear hd hdn
        have q8 : RatAt W v8 (ZI b1 m1 * (d2 : Int) + ZI b2 m2 * (d1 : Int)) (d1 * d2) := r8
        clear r8
        have HL := Lib.hid (RatLowest_any _ _ _ W q8 (Nat.mul_pos hd1 hd2) HN1.out HN2.out)
        clear q8
        go_simp
        refine (HL.out).mono ?_
        rintro e W3 ⟨v', rfl, hv, hb3⟩
        refine hK _ (v') _ (by rfl) (fun i u l hij hL h => ?_) (hv) (⟨hI.1.below hb3, hI.2.1.below hb3, hI.2.2.1.below hb3, fun hL => (hb3.block _ (box_lt (hI.2.2.2 (by rw [getD_set_ne false (by decide)] at hL; exact hL)))).trans (hI.2.2.2 (by rw [getD_set_ne false (by decide)] at hL; exact hL))⟩)
        · match i, hij, hL, h with
          | 2, _, _, h => exact IntAt.below h hb3
          | 7, _, _, h => exact NatAt.below h hb3
          | 8, _, _, h => exact RatAt.below h hb3
          | 9, _, _, h => exact RatAt.below h hb3
          | 10, _, _, h => exact (BoxC.below (RatC.good _ _)) h hb3
          | 0, _, _, _ | 1, _, _, _ | 3, _, _, _ | 4, _, _, _ | 5, _, _, _ | 6, _, _, _ | _ + 11, _, _, _ => trivial
      refine TabAll.cons rfl (by kernel_rfl) (fun L vs W hsz hcl hn hd hdn hI K hK => ?_) ?_
      · simp only [putsD, Act.put, List.setIfInBounds_toArray, List.set_cons_zero, List.set_cons_succ] at hK ⊢
        have r9 := hd.1
        generalize hv9 : vs 9 = v9 at *
        have HV9 := Lib.hid hv9
        clear hv9
        clear hd hdn
        have q9 : RatAt W v9 (lowZ (ZI b1 m1 * (d2 : Int) + ZI b2 m2 * (d1 : Int)) (d1 * d2)) (lowD (ZI b1 m1 * (d2 : Int) + ZI b2 m2 * (d1 : Int)) (d1 * d2)) := r9
        clear r9
        obtain ⟨b9, nv9, dv9, k9, rfl, hn9, hm9, hz9⟩ := q9
        obtain ⟨a9, c9, rfl⟩ := hn9.slice
        obtain ⟨a8, c8, rfl⟩ := hm9.slice
        have h3 := hI.2.2.2 hn
        generalize hl9 : (dig k9).length = l9 at *
        generalize hl8 : (dig (lowD (ZI b1 m1 * (d2 : Int) + ZI b2 m2 * (d1 : Int)) (d1 * d2))).length = l8 at *
        have g0 := box_cell h3 0
        have g1 := box_cell h3 1
        have g2 := box_cell h3 2
        have f0 := box_frozen h3 0
        have f1 := box_frozen h3 1
        have f2 := box_frozen h3 2
        simp only [List.getElem?_toArray, List.getElem?_cons_zero, List.getElem?_cons_succ] at g0 g1 g2
        have HS := Lib.hid (store3 h3 (.bool b9) (.slice a9 l9 c9) (.slice a8 l8 c8))
        have HC := Lib.hid (show RatC _ _ W [.bool b9, .slice a9 l9 c9, .slice a8 l8 c8] from ⟨b9, _, _, k9, rfl, hn9, hm9, hz9⟩)
        have H3 := Lib.hid h3
        have HI := Lib.hid hI
        have HSZ := Lib.hid hsz
        clear hI h3 hn9 hm9 hz9 hl9 hl8 hcl hn hsz
        have hno : NoInt [.bool false, .slice none 0 0, .slice none 0 0] := by intro x hx; simp only [List.mem_cons, List.not_mem_nil, or_false] at hx; rcases hx with rfl | rfl | rfl <;> simp
        have HNO := Lib.hid hno
        clear hno
        go_simp
        refine hK _ undef _ (by rfl) (fun i u l hij hL h => ?_) ⟨_, _, rfl, Nat.zero_le _, HS.out.1, HC.out.noInt, rfl, fun _ => (RatC.good _ _).other HC.out H3.out HNO.out HS.out.2⟩ ⟨HI.out.1.stored (N := w.heap.size + 1 + 1) (by omega) (by intro x hx; simp only [List.mem_cons, List.not_mem_nil, or_false] at hx; rcases hx with rfl | rfl | rfl | rfl <;> simp only <;> omega) [(0, .bool b9), (1, .slice a9 l9 c9), (2, .slice a8 l8 c8)], intAt_other HI.out.2.1 H3.out HNO.out HS.out.2, intAt_other HI.out.2.2.1 H3.out HNO.out HS.out.2, fun hL => ?_⟩
        · match i, hij, hL, h with
          | 2, _, _, h => exact intAt_other h H3.out HNO.out HS.out.2
          | 7, _, _, h => exact NatAt.other h H3.out HNO.out HS.out.2
          | 8, _, _, h => exact ratAt_other h H3.out HNO.out HS.out.2
          | 9, _, _, h => exact ratAt_other h H3.out HNO.out HS.out.2
          | 10, hij, _, _ => exact absurd rfl hij
          | 0, _, _, _ | 1, _, _, _ | 3, _, _, _ | 4, _, _, _ | 5, _, _, _ | 6, _, _, _ | _ + 11, _, _, _ => trivial
        · exfalso; rw [getD_set_self (by rw [HSZ.out]; decide)] at hL; cases hL
      exact TabAll.nil
    case finb =>
      intro vs Wz hd L hsz hall hI
      have r2 := hd.1
      have r7 := hd.2.1
      have r8 := hd.2.2.1
      have r9 := hd.2.2.2.1
      have r10 := hd.2.2.2.2.1
      simp only [List.map_cons, List.map_nil, putsD, Act.put, List.setIfInBounds_toArray, List.set_cons_zero, List.set_cons_succ]
      generalize vs 2 = v2 at *
      generalize vs 7 = v7 at *
      generalize vs 8 = v8 at *
      generalize vs 9 = v9 at *
      generalize vs 10 = v10 at *
      clear hd hall hsz
      refine NoPanic.normal ?_
      have q10 : BoxC 43 3 0 (RatC (lowZ (ZI b1 m1 * (d2 : Int) + ZI b2 m2 * (d1 : Int)) (d1 * d2)) (lowD (ZI b1 m1 * (d2 : Int) + ZI b2 m2 * (d1 : Int)) (d1 * d2))) Wz true (.pointer (some ⟨w.heap.size + 1 + 1, 0, none⟩)) := r10
      obtain ⟨M, old, hp, -, hM, -, -, hc⟩ := q10
      obtain ⟨b9, nv9, dv9, k9, rfl, hn9, hm9, hz9⟩ := hc rfl
      simp only [Value.pointer.injEq, Option.some.injEq, Addr.mk.injEq, and_true] at hp
      subst hp
      have t0 := box_cell hM 0
      have t1 := box_cell hM 1
      have t2 := box_cell hM 2
      simp only [List.getElem?_toArray, List.getElem?_cons_zero, List.getElem?_cons_succ] at t0 t1 t2
      have HQ := Lib.hid (show RatAt Wz _ _ _ from ⟨b9, nv9, dv9, k9, rfl, hn9, hm9, hz9⟩)
      have HBL := Lib.hid hI.1.1
      clear hI hc hn9 hm9 hz9 hM r2 r7 r8 r9 r10 hBd
      go_wp2
      refine bodyPost_ret (v := .agg #[.bool b9, nv9, dv9]) (by simp [results, Tryd.results22, go_sem, t0, t1, t2]) rfl ?_
      exact ⟨_, rfl, HQ.out, HBL.out⟩
end Go.Proofs.YtpmadgmjkljbgaaDoor
