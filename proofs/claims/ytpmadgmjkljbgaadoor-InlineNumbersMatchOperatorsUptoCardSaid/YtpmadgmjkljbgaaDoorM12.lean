/- Part 12 of the proof. -/
import Derived.Test.YtpmadgmjkljbgaaDoorM11

/- Walks: values of numbers: Whole, Value, number, integer, I, N, Number. -/
namespace Go.Proofs.YtpmadgmjkljbgaaDoor
open Go.RowKit

/-- The value of an integer, and of a ratio in lowest terms. -/
def valZ (z : Int) : Vl := ⟨2, decide (z < 0), lim z.natAbs, false, [], ⟨#[]⟩, 0⟩
def valQ (z : Int) (d : Nat) : Vl := if d = 1 then valZ z else ⟨3, decide (z < 0), lim z.natAbs, false, lim d, ⟨#[]⟩, 0⟩
set_option maxRecDepth 100000 in
set_option maxHeartbeats 2000000 in
theorem WholeV_any (xv : Value) (z : Int) (w : World) (hx : IntAt w xv z) (nz : (dig z.natAbs).length ≤ 1000000) :
    Calls Tryd.prog 69 #[xv] w fun e w' => ∃ v', e = .returned v' ∧ VlAt w' v' (valZ z) ∧ Below w.heap.size w w' := by
  obtain ⟨b1, v1, m, rfl, hm, hz⟩ := hx
  have hzm : z.natAbs = m := by rw [← hz, ZI_abs]
  have HLM := Lib.hid (fun W (h : Below w.heap.size w W) => Limbs_any _ m W (hm.below h) (by rw [← hzm]; exact nz))
  obtain ⟨a1, c1, rfl⟩ := hm.slice
  have hl1 : (dig m).length = 0 ↔ m = 0 := by rw [List.length_eq_zero_iff, dig_eq_nil]
  clear hm nz
  generalize (dig m).length = l1 at HLM hl1
  have hal := alloc2 w (.cells #[.bool b1, .slice a1 l1 c1] 41) (.cells #[.int .i64 0, .bool false, .slice none 0 0, .bool false, .slice none 0 0, .string ⟨#[]⟩, .int .i64 0] 26)
  go_enter Tryd.func69, Tryd.ntmps69
  go_upto_region 1 with fail
  generalize ((w.alloc (.cells #[.bool b1, .slice a1 l1 c1] 41)).alloc (.cells #[.int .i64 0, .bool false, .slice none 0 0, .bool false, .slice none 0 0, .string ⟨#[]⟩, .int .i64 0] 26)) = w1 at *
  obtain ⟨hb1, h1, h2⟩ := hal
  have hBd : Bxs [(w.heap.size, (.cells #[.bool b1, .slice a1 l1 c1] 41))] w w1.drew := ⟨hb1.drew, fun x hx => by
    simp only [List.mem_cons, List.not_mem_nil, or_false] at hx
    subst hx
    exact h1⟩
  clear h1 hb1
  cases b1 with
  | false =>
    have HZ := Lib.hid (show valZ z = ⟨2, false, lim m, false, [], ⟨#[]⟩, 0⟩ by rw [← hzm, ← hz]; unfold valZ ZI; simp)
    clear hz hzm hl1
    refine wp_region_noPanic ?_
    refine wp_region_L (S := fun _ W => Bxs [(w.heap.size, (.cells #[.bool false, .slice a1 l1 c1] 41))] w W) (by kernel_rfl) ?_
    refine wpAnyL_take (T := fun _ => True) (i := 0) (v := ?vvwa0) rfl (by kernel_rfl) (by kernel_rfl) (by kernel_rfl) (fun _ _ _ h => h) (fun _ _ => Iff.rfl) (fun _ _ _ _ _ => trivial) (Closed.of_B (by kernel_rfl)) (Or.inl ⟨by kernel_rfl, ?hywa0⟩) hBd ?restwa0
    case hywa0 => (intro w _; go_simp; with_reducible rfl)
    go_simp
    refine wpAnyL_take (T := fun W => Bxs [(w.heap.size, (.cells #[.bool false, .slice a1 l1 c1] 41))] w W) (i := 1) (v := ?vvwa1) rfl (by kernel_rfl) (by kernel_rfl) (by kernel_rfl) (fun _ _ _ h => h) (fun _ _ => Iff.rfl) (fun _ _ _ _ h => h) (Closed.of_B (by kernel_rfl)) (Or.inl ⟨by kernel_rfl, ?hywa1⟩) hBd ?restwa1
    case hywa1 =>
      intro W hW
      have hx0 := hW.2 ((w.heap.size, (.cells #[.bool false, .slice a1 l1 c1] 41)) : Nat × Obj) (by simp)
      have dx0x0 := box_cell hx0 0
      simp only [List.getElem?_toArray, List.getElem?_cons_zero, List.getElem?_cons_succ] at dx0x0
      clear hW
      go_simp; with_reducible rfl
    go_simp
    refine wpAnyL_take (T := fun _ => True) (i := 2) (v := ?vvwa2) rfl (by kernel_rfl) (by kernel_rfl) (by kernel_rfl) (fun _ _ _ h => h) (fun _ _ => Iff.rfl) (fun _ _ _ _ _ => trivial) (Closed.of_B (by kernel_rfl)) (Or.inl ⟨by kernel_rfl, ?hywa2⟩) hBd ?restwa2
    case hywa2 => (intro w _; go_simp; with_reducible rfl)
    go_simp
    refine wpAnyL_take (T := fun _ => True) (i := 3) (v := undef) rfl (by kernel_rfl) (by kernel_rfl) (by kernel_rfl) (fun _ _ _ h => h) (fun _ _ => Iff.rfl) (fun _ _ _ _ _ => trivial) (Closed.of_B (by kernel_rfl)) (Or.inr ⟨by kernel_rfl, rfl⟩) hBd ?restwa3
    go_simp
    refine wpAnyL_take (T := fun _ => True) (i := 4) (v := undef) rfl (by kernel_rfl) (by kernel_rfl) (by kernel_rfl) (fun _ _ _ h => h) (fun _ _ => Iff.rfl) (fun _ _ _ _ _ => trivial) (Closed.of_B (by kernel_rfl)) (Or.inr ⟨by kernel_rfl, rfl⟩) hBd ?restwa4
    go_simp
    refine wpAnyL_take (T := fun _ => True) (i := 5) (v := undef) rfl (by kernel_rfl) (by kernel_rfl) (by kernel_rfl) (fun _ _ _ h => h) (fun _ _ => Iff.rfl) (fun _ _ _ _ _ => trivial) (Closed.of_B (by kernel_rfl)) (Or.inr ⟨by kernel_rfl, rfl⟩) hBd ?restwa5
    go_simp
    refine wpAnyL_take (T := fun _ => True) (i := 6) (v := undef) rfl (by kernel_rfl) (by kernel_rfl) (by kernel_rfl) (fun _ _ _ h => h) (fun _ _ => Iff.rfl) (fun _ _ _ _ _ => trivial) (Closed.of_B (by kernel_rfl)) (Or.inr ⟨by kernel_rfl, rfl⟩) hBd ?restwa6
    go_simp
    refine wpAnyL_take (T := fun _ => True) (i := 7) (v := ?vvwa7) rfl (by kernel_rfl) (by kernel_rfl) (by kernel_rfl) (fun _ _ _ h => h) (fun _ _ => Iff.rfl) (fun _ _ _ _ _ => trivial) (Closed.of_B (by kernel_rfl)) (Or.inl ⟨by kernel_rfl, ?hywa7⟩) hBd ?restwa7
    case hywa7 => (intro w _; go_simp; with_reducible rfl)
    go_simp
    refine wpAnyL_take (T := fun _ => True) (i := 8) (v := ?vvwa8) rfl (by kernel_rfl) (by kernel_rfl) (by kernel_rfl) (fun _ _ _ h => h) (fun _ _ => Iff.rfl) (fun _ _ _ _ _ => trivial) (Closed.of_B (by kernel_rfl)) (Or.inl ⟨by kernel_rfl, ?hywa8⟩) hBd ?restwa8
    case hywa8 => (intro w _; go_simp; with_reducible rfl)
    go_simp
    refine wpAnyL_take (T := fun W => Bxs [(w.heap.size, (.cells #[.bool false, .slice a1 l1 c1] 41))] w W) (i := 9) (v := ?vvwa9) rfl (by kernel_rfl) (by kernel_rfl) (by kernel_rfl) (fun _ _ _ h => h) (fun _ _ => Iff.rfl) (fun _ _ _ _ h => h) (Closed.of_B (by kernel_rfl)) (Or.inl ⟨by kernel_rfl, ?hywa9⟩) hBd ?restwa9
    case hywa9 =>
      intro W hW
      have hx0 := hW.2 ((w.heap.size, (.cells #[.bool false, .slice a1 l1 c1] 41)) : Nat × Obj) (by simp)
      have dx0x1 := box_cell hx0 1
      simp only [List.getElem?_toArray, List.getElem?_cons_zero, List.getElem?_cons_succ] at dx0x1
      clear hW
      go_simp; with_reducible rfl
    go_simp
    refine wpAnyL_rows (R := fun i v _ W => match i with | 10 => RowU W v (lim m) | 11 => ∃ a, v = .agg #[.bool false, a] ∧ RowU W a (lim m) | 12 => VlAt W v (valZ z) | 13 => BoxV W (w.heap.size + 1) (valZ z) | _ => True) (I := fun L _ W => Bxs [(w.heap.size, (.cells #[.bool false, .slice a1 l1 c1] 41))] w W ∧ (L.getD 13 false = false → W.heap[w.heap.size + 1]? = some (.cells #[.int .i64 0, .bool false, .slice none 0 0, .bool false, .slice none 0 0, .string ⟨#[]⟩, .int .i64 0] 26 (0, 0)))) [((10, some 13, []), []), ((11, some 14, [10]), [(10, some 13, [])]), ((12, some 15, [11]), [(11, some 14, [10])]), ((13, none, [12]), [(12, some 15, [11])])] (by kernel_rfl) (by decide) (fun _ _ _ h => h.1) (fun _ => ⟨hBd, fun _ => h2⟩) ?tabwa ?finwa
    case tabwa =>
      refine TabAll.cons rfl (by kernel_rfl) (fun L vs W hsz hcl hn hd hdn hI K hK => ?_) ?_
      · simp only [putsD, Act.put, List.setIfInBounds_toArray, List.set_cons_zero, List.set_cons_succ] at hK ⊢
        clear hd hdn
        go_simp
        refine (HLM.out W hI.1.1).mono ?_
        rintro e W3 ⟨v', rfl, hv, hb3⟩
        refine hK _ (v') _ (by rfl) (fun i u l hij hL h => ?_) (hv) (⟨hI.1.below hb3, fun hL => (hb3.block _ (box_lt (hI.2 (by rw [getD_set_ne false (by decide)] at hL; exact hL)))).trans (hI.2 (by rw [getD_set_ne false (by decide)] at hL; exact hL))⟩)
        · match i, hij, hL, h with
          | 10, _, _, h => exact RowOf.below h hb3
          | 11, _, _, h => exact (fun ⟨a, h1, h2⟩ hb => ⟨a, h1, RowOf.below h2 hb⟩) h hb3
          | 12, _, _, h => exact VlAt.below h hb3
          | 13, _, _, h => exact (BoxV.below) h hb3
          | 0, _, _, _ | 1, _, _, _ | 2, _, _, _ | 3, _, _, _ | 4, _, _, _ | 5, _, _, _ | 6, _, _, _ | 7, _, _, _ | 8, _, _, _ | 9, _, _, _ | _ + 14, _, _, _ => trivial
      refine TabAll.cons rfl (by kernel_rfl) (fun L vs W hsz hcl hn hd hdn hI K hK => ?_) ?_
      · simp only [putsD, Act.put, List.setIfInBounds_toArray, List.set_cons_zero, List.set_cons_succ] at hK ⊢
        have r10 := hd.1
        generalize hv10 : vs 10 = v10 at *
        have HV10 := Lib.hid hv10
        clear hv10
        clear hd hdn
        have q10 : RowU W v10 (lim m) := r10
        clear r10
        have HQ := Lib.hid q10
        obtain ⟨a5, c5, rfl, -⟩ := q10
        generalize (lim m).length = l5 at *
        go_simp
        refine hK _ (.agg #[.bool false, .slice a5 l5 c5]) _ (by rfl) (fun i u l hij hL h => h) (⟨_, rfl, HQ.out⟩) (⟨hI.1, fun hL => hI.2 (by rw [getD_set_ne false (by decide)] at hL; exact hL)⟩)
      refine TabAll.cons rfl (by kernel_rfl) (fun L vs W hsz hcl hn hd hdn hI K hK => ?_) ?_
      · simp only [putsD, Act.put, List.setIfInBounds_toArray, List.set_cons_zero, List.set_cons_succ] at hK ⊢
        have r11 := hd.1
        generalize hv11 : vs 11 = v11 at *
        have HV11 := Lib.hid hv11
        clear hv11
        clear hd hdn
        have q11 : ∃ a, v11 = .agg #[.bool false, a] ∧ RowU W a (lim m) := r11
        clear r11
        obtain ⟨a, rfl, q⟩ := q11
        have HQ := Lib.hid q
        obtain ⟨a5, c5, rfl, -⟩ := q
        generalize (lim m).length = l5 at *
        go_simp
        refine hK _ (.agg #[.int .i64 2, .bool false, .slice a5 l5 c5, .bool false, .slice none 0 0, .string ⟨#[]⟩, .int .i64 0]) _ (by rfl) (fun i u l hij hL h => h) ((by rw [HZ.out]; exact ⟨_, _, rfl, HQ.out, RowOf.nil _ _⟩)) (⟨hI.1, fun hL => hI.2 (by rw [getD_set_ne false (by decide)] at hL; exact hL)⟩)
      refine TabAll.cons rfl (by kernel_rfl) (fun L vs W hsz hcl hn hd hdn hI K hK => ?_) ?_
      · simp only [putsD, Act.put, List.setIfInBounds_toArray, List.set_cons_zero, List.set_cons_succ] at hK ⊢
        have r12 := hd.1
        generalize hv12 : vs 12 = v12 at *
        have HV12 := Lib.hid hv12
        clear hv12
        clear hd hdn
        have q12 : VlAt W v12 (valZ z) := r12
        clear r12
        have HQ := Lib.hid q12
        obtain ⟨cs, rfl, hcl7, hone, hnou⟩ := q12.cells
        have h3 := hI.2 hn
        have HS := Lib.hid (setRow_facts h3 cs.toArray)
        have HI := Lib.hid hI
        have HSZ := Lib.hid hsz
        refine wpO_store (cells := cs.toArray) stVal h3 (by rfl) (by simpa using hcl7) (by simpa using hone) (by rfl) (by rfl) ?_
        refine hK _ undef _ (by rfl) (fun i u l hij hL h => ?_) ⟨cs, HS.out.1, hcl7, VlAt.other HQ.out h3 noU_zeroV HS.out.2.1⟩ ⟨⟨HS.out.2.2 _ _ (Nat.le_succ _) HI.out.1.1, fun x hx => ?_⟩, fun hL => ?_⟩
        · match i, hij, hL, h with
          | 10, _, _, h => exact RowU.other h h3 noU_zeroV HS.out.2.1
          | 11, _, _, h => (obtain ⟨a, h1, h2⟩ := h; exact ⟨a, h1, RowU.other h2 h3 noU_zeroV HS.out.2.1⟩)
          | 12, _, _, h => exact VlAt.other h h3 noU_zeroV HS.out.2.1
          | 13, hij, _, _ => exact absurd rfl hij
          | 0, _, _, _ | 1, _, _, _ | 2, _, _, _ | 3, _, _, _ | 4, _, _, _ | 5, _, _, _ | 6, _, _, _ | 7, _, _, _ | 8, _, _, _ | 9, _, _, _ | _ + 14, _, _, _ => trivial
        · have hx' := HI.out.1.2 x hx
          simp only [List.mem_cons, List.not_mem_nil, or_false] at hx
          subst hx
          exact (HS.out.2.1 _ (box_lt hx') (by simp only; omega)).trans hx'
        · exfalso; rw [getD_set_self (by rw [HSZ.out]; decide)] at hL; cases hL
      exact TabAll.nil
    case finwa =>
      intro vs Wz hd L hsz hall hI
      have r10 := hd.1
      have r11 := hd.2.1
      have r12 := hd.2.2.1
      have r13 := hd.2.2.2.1
      simp only [List.map_cons, List.map_nil, putsD, Act.put, List.setIfInBounds_toArray, List.set_cons_zero, List.set_cons_succ]
      generalize vs 10 = v10 at *
      generalize vs 11 = v11 at *
      generalize vs 12 = v12 at *
      generalize vs 13 = v13 at *
      clear hd hall hsz
      refine NoPanic.normal ?_
      have q13 : BoxV Wz (w.heap.size + 1) (valZ z) := r13
      obtain ⟨cs, hM, hcl7, hV⟩ := q13
      have HB := Lib.hid hI.1.1
      clear hI r10 r11 r12 r13 hBd h2
      go_wp2
      exact bodyPost_ret (results_cell rfl stVal rfl hM (by simpa using hcl7)) rfl ⟨_, rfl, hV, HB.out⟩
  | true =>
    by_cases hm0 : m = 0
    · obtain rfl : l1 = 0 := hl1.2 hm0
      have HZ := Lib.hid (show valZ z = ⟨2, false, lim m, false, [], ⟨#[]⟩, 0⟩ by rw [← hzm, ← hz]; subst hm0; unfold valZ ZI; simp)
      clear hz hzm hl1 hm0
      refine wp_region_noPanic ?_
      refine wp_region_L (S := fun _ W => Bxs [(w.heap.size, (.cells #[.bool true, .slice a1 0 c1] 41))] w W) (by kernel_rfl) ?_
      refine wpAnyL_take (T := fun _ => True) (i := 0) (v := ?vvwb0) rfl (by kernel_rfl) (by kernel_rfl) (by kernel_rfl) (fun _ _ _ h => h) (fun _ _ => Iff.rfl) (fun _ _ _ _ _ => trivial) (Closed.of_B (by kernel_rfl)) (Or.inl ⟨by kernel_rfl, ?hywb0⟩) hBd ?restwb0
      case hywb0 => (intro w _; go_simp; with_reducible rfl)
      go_simp
      refine wpAnyL_take (T := fun W => Bxs [(w.heap.size, (.cells #[.bool true, .slice a1 0 c1] 41))] w W) (i := 1) (v := ?vvwb1) rfl (by kernel_rfl) (by kernel_rfl) (by kernel_rfl) (fun _ _ _ h => h) (fun _ _ => Iff.rfl) (fun _ _ _ _ h => h) (Closed.of_B (by kernel_rfl)) (Or.inl ⟨by kernel_rfl, ?hywb1⟩) hBd ?restwb1
      case hywb1 =>
        intro W hW
        have hx0 := hW.2 ((w.heap.size, (.cells #[.bool true, .slice a1 0 c1] 41)) : Nat × Obj) (by simp)
        have dx0x0 := box_cell hx0 0
        simp only [List.getElem?_toArray, List.getElem?_cons_zero, List.getElem?_cons_succ] at dx0x0
        clear hW
        go_simp; with_reducible rfl
      go_simp
      refine wpAnyL_take (T := fun _ => True) (i := 2) (v := ?vvwb2) rfl (by kernel_rfl) (by kernel_rfl) (by kernel_rfl) (fun _ _ _ h => h) (fun _ _ => Iff.rfl) (fun _ _ _ _ _ => trivial) (Closed.of_B (by kernel_rfl)) (Or.inl ⟨by kernel_rfl, ?hywb2⟩) hBd ?restwb2
      case hywb2 => (intro w _; go_simp; with_reducible rfl)
      go_simp
      refine wpAnyL_take (T := fun _ => True) (i := 3) (v := ?vvwb3) rfl (by kernel_rfl) (by kernel_rfl) (by kernel_rfl) (fun _ _ _ h => h) (fun _ _ => Iff.rfl) (fun _ _ _ _ _ => trivial) (Closed.of_B (by kernel_rfl)) (Or.inl ⟨by kernel_rfl, ?hywb3⟩) hBd ?restwb3
      case hywb3 => (intro w _; go_simp; with_reducible rfl)
      go_simp
      refine wpAnyL_take (T := fun W => Bxs [(w.heap.size, (.cells #[.bool true, .slice a1 0 c1] 41))] w W) (i := 4) (v := ?vvwb4) rfl (by kernel_rfl) (by kernel_rfl) (by kernel_rfl) (fun _ _ _ h => h) (fun _ _ => Iff.rfl) (fun _ _ _ _ h => h) (Closed.of_B (by kernel_rfl)) (Or.inl ⟨by kernel_rfl, ?hywb4⟩) hBd ?restwb4
      case hywb4 =>
        intro W hW
        have hx0 := hW.2 ((w.heap.size, (.cells #[.bool true, .slice a1 0 c1] 41)) : Nat × Obj) (by simp)
        have dx0x1 := box_cell hx0 1
        simp only [List.getElem?_toArray, List.getElem?_cons_zero, List.getElem?_cons_succ] at dx0x1
        clear hW
        go_simp; with_reducible rfl
      go_simp
      refine wpAnyL_take (T := fun _ => True) (i := 5) (v := ?vvwb5) rfl (by kernel_rfl) (by kernel_rfl) (by kernel_rfl) (fun _ _ _ h => h) (fun _ _ => Iff.rfl) (fun _ _ _ _ _ => trivial) (Closed.of_B (by kernel_rfl)) (Or.inl ⟨by kernel_rfl, ?hywb5⟩) hBd ?restwb5
      case hywb5 => (intro w _; go_simp; with_reducible rfl)
      go_simp
      refine wpAnyL_take (T := fun _ => True) (i := 6) (v := ?vvwb6) rfl (by kernel_rfl) (by kernel_rfl) (by kernel_rfl) (fun _ _ _ h => h) (fun _ _ => Iff.rfl) (fun _ _ _ _ _ => trivial) (Closed.of_B (by kernel_rfl)) (Or.inl ⟨by kernel_rfl, ?hywb6⟩) hBd ?restwb6
      case hywb6 => (intro w _; go_simp; with_reducible rfl)
      go_simp
      refine wpAnyL_take (T := fun _ => True) (i := 7) (v := ?vvwb7) rfl (by kernel_rfl) (by kernel_rfl) (by kernel_rfl) (fun _ _ _ h => h) (fun _ _ => Iff.rfl) (fun _ _ _ _ _ => trivial) (Closed.of_B (by kernel_rfl)) (Or.inl ⟨by kernel_rfl, ?hywb7⟩) hBd ?restwb7
      case hywb7 => (intro w _; go_simp; with_reducible rfl)
      go_simp
      refine wpAnyL_take (T := fun _ => True) (i := 8) (v := ?vvwb8) rfl (by kernel_rfl) (by kernel_rfl) (by kernel_rfl) (fun _ _ _ h => h) (fun _ _ => Iff.rfl) (fun _ _ _ _ _ => trivial) (Closed.of_B (by kernel_rfl)) (Or.inl ⟨by kernel_rfl, ?hywb8⟩) hBd ?restwb8
      case hywb8 => (intro w _; go_simp; with_reducible rfl)
      go_simp
      refine wpAnyL_take (T := fun W => Bxs [(w.heap.size, (.cells #[.bool true, .slice a1 0 c1] 41))] w W) (i := 9) (v := ?vvwb9) rfl (by kernel_rfl) (by kernel_rfl) (by kernel_rfl) (fun _ _ _ h => h) (fun _ _ => Iff.rfl) (fun _ _ _ _ h => h) (Closed.of_B (by kernel_rfl)) (Or.inl ⟨by kernel_rfl, ?hywb9⟩) hBd ?restwb9
      case hywb9 =>
        intro W hW
        have hx0 := hW.2 ((w.heap.size, (.cells #[.bool true, .slice a1 0 c1] 41)) : Nat × Obj) (by simp)
        have dx0x1 := box_cell hx0 1
        simp only [List.getElem?_toArray, List.getElem?_cons_zero, List.getElem?_cons_succ] at dx0x1
        clear hW
        go_simp; with_reducible rfl
      go_simp
      refine wpAnyL_rows (R := fun i v _ W => match i with | 10 => RowU W v (lim m) | 11 => ∃ a, v = .agg #[.bool false, a] ∧ RowU W a (lim m) | 12 => VlAt W v (valZ z) | 13 => BoxV W (w.heap.size + 1) (valZ z) | _ => True) (I := fun L _ W => Bxs [(w.heap.size, (.cells #[.bool true, .slice a1 0 c1] 41))] w W ∧ (L.getD 13 false = false → W.heap[w.heap.size + 1]? = some (.cells #[.int .i64 0, .bool false, .slice none 0 0, .bool false, .slice none 0 0, .string ⟨#[]⟩, .int .i64 0] 26 (0, 0)))) [((10, some 13, []), []), ((11, some 14, [10]), [(10, some 13, [])]), ((12, some 15, [11]), [(11, some 14, [10])]), ((13, none, [12]), [(12, some 15, [11])])] (by kernel_rfl) (by decide) (fun _ _ _ h => h.1) (fun _ => ⟨hBd, fun _ => h2⟩) ?tabwb ?finwb
      case tabwb =>
        refine TabAll.cons rfl (by kernel_rfl) (fun L vs W hsz hcl hn hd hdn hI K hK => ?_) ?_
        · simp only [putsD, Act.put, List.setIfInBounds_toArray, List.set_cons_zero, List.set_cons_succ] at hK ⊢
          clear hd hdn
          go_simp
          refine (HLM.out W hI.1.1).mono ?_
          rintro e W3 ⟨v', rfl, hv, hb3⟩
          refine hK _ (v') _ (by rfl) (fun i u l hij hL h => ?_) (hv) (⟨hI.1.below hb3, fun hL => (hb3.block _ (box_lt (hI.2 (by rw [getD_set_ne false (by decide)] at hL; exact hL)))).trans (hI.2 (by rw [getD_set_ne false (by decide)] at hL; exact hL))⟩)
          · match i, hij, hL, h with
            | 10, _, _, h => exact RowOf.below h hb3
            | 11, _, _, h => exact (fun ⟨a, h1, h2⟩ hb => ⟨a, h1, RowOf.below h2 hb⟩) h hb3
            | 12, _, _, h => exact VlAt.below h hb3
            | 13, _, _, h => exact (BoxV.below) h hb3
            | 0, _, _, _ | 1, _, _, _ | 2, _, _, _ | 3, _, _, _ | 4, _, _, _ | 5, _, _, _ | 6, _, _, _ | 7, _, _, _ | 8, _, _, _ | 9, _, _, _ | _ + 14, _, _, _ => trivial
        refine TabAll.cons rfl (by kernel_rfl) (fun L vs W hsz hcl hn hd hdn hI K hK => ?_) ?_
        · simp only [putsD, Act.put, List.setIfInBounds_toArray, List.set_cons_zero, List.set_cons_succ] at hK ⊢
          have r10 := hd.1
          generalize hv10 : vs 10 = v10 at *
          have HV10 := Lib.hid hv10
          clear hv10
          clear hd hdn
          have q10 : RowU W v10 (lim m) := r10
          clear r10
          have HQ := Lib.hid q10
          obtain ⟨a5, c5, rfl, -⟩ := q10
          generalize (lim m).length = l5 at *
          go_simp
          refine hK _ (.agg #[.bool false, .slice a5 l5 c5]) _ (by rfl) (fun i u l hij hL h => h) (⟨_, rfl, HQ.out⟩) (⟨hI.1, fun hL => hI.2 (by rw [getD_set_ne false (by decide)] at hL; exact hL)⟩)
        refine TabAll.cons rfl (by kernel_rfl) (fun L vs W hsz hcl hn hd hdn hI K hK => ?_) ?_
        · simp only [putsD, Act.put, List.setIfInBounds_toArray, List.set_cons_zero, List.set_cons_succ] at hK ⊢
          have r11 := hd.1
          generalize hv11 : vs 11 = v11 at *
          have HV11 := Lib.hid hv11
          clear hv11
          clear hd hdn
          have q11 : ∃ a, v11 = .agg #[.bool false, a] ∧ RowU W a (lim m) := r11
          clear r11
          obtain ⟨a, rfl, q⟩ := q11
          have HQ := Lib.hid q
          obtain ⟨a5, c5, rfl, -⟩ := q
          generalize (lim m).length = l5 at *
          go_simp
          refine hK _ (.agg #[.int .i64 2, .bool false, .slice a5 l5 c5, .bool false, .slice none 0 0, .string ⟨#[]⟩, .int .i64 0]) _ (by rfl) (fun i u l hij hL h => h) ((by rw [HZ.out]; exact ⟨_, _, rfl, HQ.out, RowOf.nil _ _⟩)) (⟨hI.1, fun hL => hI.2 (by rw [getD_set_ne false (by decide)] at hL; exact hL)⟩)
        refine TabAll.cons rfl (by kernel_rfl) (fun L vs W hsz hcl hn hd hdn hI K hK => ?_) ?_
        · simp only [putsD, Act.put, List.setIfInBounds_toArray, List.set_cons_zero, List.set_cons_succ] at hK ⊢
          have r12 := hd.1
          generalize hv12 : vs 12 = v12 at *
          have HV12 := Lib.hid hv12
          clear hv12
          clear hd hdn
          have q12 : VlAt W v12 (valZ z) := r12
          clear r12
          have HQ := Lib.hid q12
          obtain ⟨cs, rfl, hcl7, hone, hnou⟩ := q12.cells
          have h3 := hI.2 hn
          have HS := Lib.hid (setRow_facts h3 cs.toArray)
          have HI := Lib.hid hI
          have HSZ := Lib.hid hsz
          refine wpO_store (cells := cs.toArray) stVal h3 (by rfl) (by simpa using hcl7) (by simpa using hone) (by rfl) (by rfl) ?_
          refine hK _ undef _ (by rfl) (fun i u l hij hL h => ?_) ⟨cs, HS.out.1, hcl7, VlAt.other HQ.out h3 noU_zeroV HS.out.2.1⟩ ⟨⟨HS.out.2.2 _ _ (Nat.le_succ _) HI.out.1.1, fun x hx => ?_⟩, fun hL => ?_⟩
          · match i, hij, hL, h with
            | 10, _, _, h => exact RowU.other h h3 noU_zeroV HS.out.2.1
            | 11, _, _, h => (obtain ⟨a, h1, h2⟩ := h; exact ⟨a, h1, RowU.other h2 h3 noU_zeroV HS.out.2.1⟩)
            | 12, _, _, h => exact VlAt.other h h3 noU_zeroV HS.out.2.1
            | 13, hij, _, _ => exact absurd rfl hij
            | 0, _, _, _ | 1, _, _, _ | 2, _, _, _ | 3, _, _, _ | 4, _, _, _ | 5, _, _, _ | 6, _, _, _ | 7, _, _, _ | 8, _, _, _ | 9, _, _, _ | _ + 14, _, _, _ => trivial
          · have hx' := HI.out.1.2 x hx
            simp only [List.mem_cons, List.not_mem_nil, or_false] at hx
            subst hx
            exact (HS.out.2.1 _ (box_lt hx') (by simp only; omega)).trans hx'
          · exfalso; rw [getD_set_self (by rw [HSZ.out]; decide)] at hL; cases hL
        exact TabAll.nil
      case finwb =>
        intro vs Wz hd L hsz hall hI
        have r10 := hd.1
        have r11 := hd.2.1
        have r12 := hd.2.2.1
        have r13 := hd.2.2.2.1
        simp only [List.map_cons, List.map_nil, putsD, Act.put, List.setIfInBounds_toArray, List.set_cons_zero, List.set_cons_succ]
        generalize vs 10 = v10 at *
        generalize vs 11 = v11 at *
        generalize vs 12 = v12 at *
        generalize vs 13 = v13 at *
        clear hd hall hsz
        refine NoPanic.normal ?_
        have q13 : BoxV Wz (w.heap.size + 1) (valZ z) := r13
        obtain ⟨cs, hM, hcl7, hV⟩ := q13
        have HB := Lib.hid hI.1.1
        clear hI r10 r11 r12 r13 hBd h2
        go_wp2
        exact bodyPost_ret (results_cell rfl stVal rfl hM (by simpa using hcl7)) rfl ⟨_, rfl, hV, HB.out⟩
    · have hlp : 0 < l1 := by have := fun h => hm0 (hl1.1 h); omega
      have hlp2 : decide (0 < l1) = true := by simpa using hlp
      have HZ := Lib.hid (show valZ z = ⟨2, true, lim m, false, [], ⟨#[]⟩, 0⟩ by rw [← hzm, ← hz]; unfold valZ ZI; simp; omega)
      clear hz hzm hl1 hm0
      refine wp_region_noPanic ?_
      refine wp_region_L (S := fun _ W => Bxs [(w.heap.size, (.cells #[.bool true, .slice a1 l1 c1] 41))] w W) (by kernel_rfl) ?_
      refine wpAnyL_take (T := fun _ => True) (i := 0) (v := ?vvwc0) rfl (by kernel_rfl) (by kernel_rfl) (by kernel_rfl) (fun _ _ _ h => h) (fun _ _ => Iff.rfl) (fun _ _ _ _ _ => trivial) (Closed.of_B (by kernel_rfl)) (Or.inl ⟨by kernel_rfl, ?hywc0⟩) hBd ?restwc0
      case hywc0 => (intro w _; go_simp; with_reducible rfl)
      go_simp
      refine wpAnyL_take (T := fun W => Bxs [(w.heap.size, (.cells #[.bool true, .slice a1 l1 c1] 41))] w W) (i := 1) (v := ?vvwc1) rfl (by kernel_rfl) (by kernel_rfl) (by kernel_rfl) (fun _ _ _ h => h) (fun _ _ => Iff.rfl) (fun _ _ _ _ h => h) (Closed.of_B (by kernel_rfl)) (Or.inl ⟨by kernel_rfl, ?hywc1⟩) hBd ?restwc1
      case hywc1 =>
        intro W hW
        have hx0 := hW.2 ((w.heap.size, (.cells #[.bool true, .slice a1 l1 c1] 41)) : Nat × Obj) (by simp)
        have dx0x0 := box_cell hx0 0
        simp only [List.getElem?_toArray, List.getElem?_cons_zero, List.getElem?_cons_succ] at dx0x0
        clear hW
        go_simp; with_reducible rfl
      go_simp
      refine wpAnyL_take (T := fun _ => True) (i := 2) (v := ?vvwc2) rfl (by kernel_rfl) (by kernel_rfl) (by kernel_rfl) (fun _ _ _ h => h) (fun _ _ => Iff.rfl) (fun _ _ _ _ _ => trivial) (Closed.of_B (by kernel_rfl)) (Or.inl ⟨by kernel_rfl, ?hywc2⟩) hBd ?restwc2
      case hywc2 => (intro w _; go_simp; with_reducible rfl)
      go_simp
      refine wpAnyL_take (T := fun _ => True) (i := 3) (v := ?vvwc3) rfl (by kernel_rfl) (by kernel_rfl) (by kernel_rfl) (fun _ _ _ h => h) (fun _ _ => Iff.rfl) (fun _ _ _ _ _ => trivial) (Closed.of_B (by kernel_rfl)) (Or.inl ⟨by kernel_rfl, ?hywc3⟩) hBd ?restwc3
      case hywc3 => (intro w _; go_simp; with_reducible rfl)
      go_simp
      refine wpAnyL_take (T := fun W => Bxs [(w.heap.size, (.cells #[.bool true, .slice a1 l1 c1] 41))] w W) (i := 4) (v := ?vvwc4) rfl (by kernel_rfl) (by kernel_rfl) (by kernel_rfl) (fun _ _ _ h => h) (fun _ _ => Iff.rfl) (fun _ _ _ _ h => h) (Closed.of_B (by kernel_rfl)) (Or.inl ⟨by kernel_rfl, ?hywc4⟩) hBd ?restwc4
      case hywc4 =>
        intro W hW
        have hx0 := hW.2 ((w.heap.size, (.cells #[.bool true, .slice a1 l1 c1] 41)) : Nat × Obj) (by simp)
        have dx0x1 := box_cell hx0 1
        simp only [List.getElem?_toArray, List.getElem?_cons_zero, List.getElem?_cons_succ] at dx0x1
        clear hW
        go_simp; with_reducible rfl
      go_simp
      refine wpAnyL_take (T := fun _ => True) (i := 5) (v := ?vvwc5) rfl (by kernel_rfl) (by kernel_rfl) (by kernel_rfl) (fun _ _ _ h => h) (fun _ _ => Iff.rfl) (fun _ _ _ _ _ => trivial) (Closed.of_B (by kernel_rfl)) (Or.inl ⟨by kernel_rfl, ?hywc5⟩) hBd ?restwc5
      case hywc5 => (intro w _; go_simp; with_reducible rfl)
      go_simp
      refine wpAnyL_take (T := fun _ => True) (i := 6) (v := ?vvwc6) rfl (by kernel_rfl) (by kernel_rfl) (by kernel_rfl) (fun _ _ _ h => h) (fun _ _ => Iff.rfl) (fun _ _ _ _ _ => trivial) (Closed.of_B (by kernel_rfl)) (Or.inl ⟨by kernel_rfl, ?hywc6⟩) hBd ?restwc6
      case hywc6 => (intro w _; go_simp; with_reducible rfl)
      go_simp
      refine wpAnyL_take (T := fun _ => True) (i := 7) (v := ?vvwc7) rfl (by kernel_rfl) (by kernel_rfl) (by kernel_rfl) (fun _ _ _ h => h) (fun _ _ => Iff.rfl) (fun _ _ _ _ _ => trivial) (Closed.of_B (by kernel_rfl)) (Or.inl ⟨by kernel_rfl, ?hywc7⟩) hBd ?restwc7
      case hywc7 => (intro w _; go_simp; with_reducible rfl)
      go_simp
      refine wpAnyL_take (T := fun _ => True) (i := 8) (v := ?vvwc8) rfl (by kernel_rfl) (by kernel_rfl) (by kernel_rfl) (fun _ _ _ h => h) (fun _ _ => Iff.rfl) (fun _ _ _ _ _ => trivial) (Closed.of_B (by kernel_rfl)) (Or.inl ⟨by kernel_rfl, ?hywc8⟩) hBd ?restwc8
      case hywc8 => (intro w _; go_simp; with_reducible rfl)
      go_simp
      refine wpAnyL_take (T := fun W => Bxs [(w.heap.size, (.cells #[.bool true, .slice a1 l1 c1] 41))] w W) (i := 9) (v := ?vvwc9) rfl (by kernel_rfl) (by kernel_rfl) (by kernel_rfl) (fun _ _ _ h => h) (fun _ _ => Iff.rfl) (fun _ _ _ _ h => h) (Closed.of_B (by kernel_rfl)) (Or.inl ⟨by kernel_rfl, ?hywc9⟩) hBd ?restwc9
      case hywc9 =>
        intro W hW
        have hx0 := hW.2 ((w.heap.size, (.cells #[.bool true, .slice a1 l1 c1] 41)) : Nat × Obj) (by simp)
        have dx0x1 := box_cell hx0 1
        simp only [List.getElem?_toArray, List.getElem?_cons_zero, List.getElem?_cons_succ] at dx0x1
        clear hW
        go_simp; with_reducible rfl
      go_simp
      refine wpAnyL_rows (R := fun i v _ W => match i with | 10 => RowU W v (lim m) | 11 => ∃ a, v = .agg #[.bool true, a] ∧ RowU W a (lim m) | 12 => VlAt W v (valZ z) | 13 => BoxV W (w.heap.size + 1) (valZ z) | _ => True) (I := fun L _ W => Bxs [(w.heap.size, (.cells #[.bool true, .slice a1 l1 c1] 41))] w W ∧ (L.getD 13 false = false → W.heap[w.heap.size + 1]? = some (.cells #[.int .i64 0, .bool false, .slice none 0 0, .bool false, .slice none 0 0, .string ⟨#[]⟩, .int .i64 0] 26 (0, 0)))) [((10, some 13, []), []), ((11, some 14, [10]), [(10, some 13, [])]), ((12, some 15, [11]), [(11, some 14, [10])]), ((13, none, [12]), [(12, some 15, [11])])] (by kernel_rfl) (by decide) (fun _ _ _ h => h.1) (fun _ => ⟨hBd, fun _ => h2⟩) ?tabwc ?finwc
      case tabwc =>
        refine TabAll.cons rfl (by kernel_rfl) (fun L vs W hsz hcl hn hd hdn hI K hK => ?_) ?_
        · simp only [putsD, Act.put, List.setIfInBounds_toArray, List.set_cons_zero, List.set_cons_succ] at hK ⊢
          clear hd hdn
          go_simp
          refine (HLM.out W hI.1.1).mono ?_
          rintro e W3 ⟨v', rfl, hv, hb3⟩
          refine hK _ (v') _ (by rfl) (fun i u l hij hL h => ?_) (hv) (⟨hI.1.below hb3, fun hL => (hb3.block _ (box_lt (hI.2 (by rw [getD_set_ne false (by decide)] at hL; exact hL)))).trans (hI.2 (by rw [getD_set_ne false (by decide)] at hL; exact hL))⟩)
          · match i, hij, hL, h with
            | 10, _, _, h => exact RowOf.below h hb3
            | 11, _, _, h => exact (fun ⟨a, h1, h2⟩ hb => ⟨a, h1, RowOf.below h2 hb⟩) h hb3
            | 12, _, _, h => exact VlAt.below h hb3
            | 13, _, _, h => exact (BoxV.below) h hb3
            | 0, _, _, _ | 1, _, _, _ | 2, _, _, _ | 3, _, _, _ | 4, _, _, _ | 5, _, _, _ | 6, _, _, _ | 7, _, _, _ | 8, _, _, _ | 9, _, _, _ | _ + 14, _, _, _ => trivial
        refine TabAll.cons rfl (by kernel_rfl) (fun L vs W hsz hcl hn hd hdn hI K hK => ?_) ?_
        · simp only [putsD, Act.put, List.setIfInBounds_toArray, List.set_cons_zero, List.set_cons_succ] at hK ⊢
          have r10 := hd.1
          generalize hv10 : vs 10 = v10 at *
          have HV10 := Lib.hid hv10
          clear hv10
          clear hd hdn
          have q10 : RowU W v10 (lim m) := r10
          clear r10
          have HQ := Lib.hid q10
          obtain ⟨a5, c5, rfl, -⟩ := q10
          generalize (lim m).length = l5 at *
          go_simp
          refine hK _ (.agg #[.bool true, .slice a5 l5 c5]) _ (by rfl) (fun i u l hij hL h => h) (⟨_, rfl, HQ.out⟩) (⟨hI.1, fun hL => hI.2 (by rw [getD_set_ne false (by decide)] at hL; exact hL)⟩)
        refine TabAll.cons rfl (by kernel_rfl) (fun L vs W hsz hcl hn hd hdn hI K hK => ?_) ?_
        · simp only [putsD, Act.put, List.setIfInBounds_toArray, List.set_cons_zero, List.set_cons_succ] at hK ⊢
          have r11 := hd.1
          generalize hv11 : vs 11 = v11 at *
          have HV11 := Lib.hid hv11
          clear hv11
          clear hd hdn
          have q11 : ∃ a, v11 = .agg #[.bool true, a] ∧ RowU W a (lim m) := r11
          clear r11
          obtain ⟨a, rfl, q⟩ := q11
          have HQ := Lib.hid q
          obtain ⟨a5, c5, rfl, -⟩ := q
          generalize (lim m).length = l5 at *
          go_simp
          refine hK _ (.agg #[.int .i64 2, .bool true, .slice a5 l5 c5, .bool false, .slice none 0 0, .string ⟨#[]⟩, .int .i64 0]) _ (by rfl) (fun i u l hij hL h => h) ((by rw [HZ.out]; exact ⟨_, _, rfl, HQ.out, RowOf.nil _ _⟩)) (⟨hI.1, fun hL => hI.2 (by rw [getD_set_ne false (by decide)] at hL; exact hL)⟩)
        refine TabAll.cons rfl (by kernel_rfl) (fun L vs W hsz hcl hn hd hdn hI K hK => ?_) ?_
        · simp only [putsD, Act.put, List.setIfInBounds_toArray, List.set_cons_zero, List.set_cons_succ] at hK ⊢
          have r12 := hd.1
          generalize hv12 : vs 12 = v12 at *
          have HV12 := Lib.hid hv12
          clear hv12
          clear hd hdn
          have q12 : VlAt W v12 (valZ z) := r12
          clear r12
          have HQ := Lib.hid q12
          obtain ⟨cs, rfl, hcl7, hone, hnou⟩ := q12.cells
          have h3 := hI.2 hn
          have HS := Lib.hid (setRow_facts h3 cs.toArray)
          have HI := Lib.hid hI
          have HSZ := Lib.hid hsz
          refine wpO_store (cells := cs.toArray) stVal h3 (by rfl) (by simpa using hcl7) (by simpa using hone) (by rfl) (by rfl) ?_
          refine hK _ undef _ (by rfl) (fun i u l hij hL h => ?_) ⟨cs, HS.out.1, hcl7, VlAt.other HQ.out h3 noU_zeroV HS.out.2.1⟩ ⟨⟨HS.out.2.2 _ _ (Nat.le_succ _) HI.out.1.1, fun x hx => ?_⟩, fun hL => ?_⟩
          · match i, hij, hL, h with
            | 10, _, _, h => exact RowU.other h h3 noU_zeroV HS.out.2.1
            | 11, _, _, h => (obtain ⟨a, h1, h2⟩ := h; exact ⟨a, h1, RowU.other h2 h3 noU_zeroV HS.out.2.1⟩)
            | 12, _, _, h => exact VlAt.other h h3 noU_zeroV HS.out.2.1
            | 13, hij, _, _ => exact absurd rfl hij
            | 0, _, _, _ | 1, _, _, _ | 2, _, _, _ | 3, _, _, _ | 4, _, _, _ | 5, _, _, _ | 6, _, _, _ | 7, _, _, _ | 8, _, _, _ | 9, _, _, _ | _ + 14, _, _, _ => trivial
          · have hx' := HI.out.1.2 x hx
            simp only [List.mem_cons, List.not_mem_nil, or_false] at hx
            subst hx
            exact (HS.out.2.1 _ (box_lt hx') (by simp only; omega)).trans hx'
          · exfalso; rw [getD_set_self (by rw [HSZ.out]; decide)] at hL; cases hL
        exact TabAll.nil
      case finwc =>
        intro vs Wz hd L hsz hall hI
        have r10 := hd.1
        have r11 := hd.2.1
        have r12 := hd.2.2.1
        have r13 := hd.2.2.2.1
        simp only [List.map_cons, List.map_nil, putsD, Act.put, List.setIfInBounds_toArray, List.set_cons_zero, List.set_cons_succ]
        generalize vs 10 = v10 at *
        generalize vs 11 = v11 at *
        generalize vs 12 = v12 at *
        generalize vs 13 = v13 at *
        clear hd hall hsz
        refine NoPanic.normal ?_
        have q13 : BoxV Wz (w.heap.size + 1) (valZ z) := r13
        obtain ⟨cs, hM, hcl7, hV⟩ := q13
        have HB := Lib.hid hI.1.1
        clear hI r10 r11 r12 r13 hBd h2
        go_wp2
        exact bodyPost_ret (results_cell rfl stVal rfl hM (by simpa using hcl7)) rfl ⟨_, rfl, hV, HB.out⟩

end Go.Proofs.YtpmadgmjkljbgaaDoor
