/- Walks: the reference's Order, and the statement LineageOrderMatchesSpec. -/
import Derived.Test.YtbickehhnkhabaaLin9
import Derived.Test.YtbickehhnkhabaaRef1
import Derived.Test.YtbickehhnkhabaaRef2
import Derived.Test.YtbickehhnkhabaaLift
import Derived.Test.YtbickehhnkhabaaOpen
namespace Go.Proofs.Ytbickehhnkhabaa
open Go.RowKit Go.ChangeShapes Go.WideShapes Go.ChangeAt

set_option maxRecDepth 100000 in
set_option maxHeartbeats 2000000 in
theorem RefOrder_any (v : Value) (B : List (List Int)) (w : World) (hv : IntRows w v B) :
    Calls Try.prog 15 #[v] w fun e w' => ∃ v1, e = .returned (.tuple #[v1, faultV (orderF B).2.1 (orderF B).2.2]) ∧ Ints w' v1 (orderF B).1 ∧ Below w.heap.size w w' := by
  obtain ⟨av, cv, rfl⟩ := hv.len
  have hchk := OrdersFault_any _ B (w.alloc (.cells #[.int .i64 0, .int .i64 0] 27)) (hv.below (ext_alloc _ _))
  generalize hcf : chkF B = cf at *
  by_cases c0 : cf.1 = 0
  · obtain ⟨hB8, hBl⟩ := chkF_ok (B := B) (by rw [hcf]; exact c0)
    have hone : ∀ y ∈ B, y ≠ [] := fun y hy => (hBl y hy).1
    have ht1 : total B ≤ 1000 := by
      have h1 := total_le B 40 (fun y hy => (hBl y hy).2)
      omega
    obtain ⟨fc, fi⟩ := cf
    simp only at c0 hchk
    subst c0
    have hR : orderF B = if 0 < (mergedF B).2.length then ([], 19, -1) else if 40 ≤ (mergedF B).1.length then ([], 14, -1) else ((mergedF B).1, 0, 0) := by unfold orderF; rw [hcf]; rfl
    have HR := Lib.hid hR
    clear hR hcf
    go_enter Try.func15, Try.ntmps15
    go_wp2_with (go_at_call 40; refine hchk.mono ?_; rintro e w1 ⟨rfl, hb1⟩; simp only [faultV]; have hbx1 := (hb1.block w.heap.size (by simp)).trans (heap_new w _); obtain ⟨g0, g1, g2, g3⟩ := box2 hbx1)
    have hbx2 := box_alloc hbx1 (.cells #[.int .i64 0, .int .i64 fi] 27)
    have hbw2 : Below w.heap.size w (w1.alloc (.cells #[.int .i64 0, .int .i64 fi] 27)) := ((ext_alloc w _).trans (hb1.mono (by simp))).alloc (by omega) _
    clear hchk hbx1 hb1 g0 g1 g2
    have hmerged := Merged_any _ B _ (hv.below hbw2) hone hB8 ht1
    have hs2 : w.heap.size < (w1.alloc (.cells #[.int .i64 0, .int .i64 fi] 27)).heap.size := by simp; omega
    refine hmerged.mono ?_
    clear hmerged
    generalize (w1.alloc (.cells #[.int .i64 0, .int .i64 fi] 27)) = w2 at *
    have hMd : mergedF B = mergeF (total (B ++ [B.map headI]) + 1) [] (ne (B ++ [B.map headI])) := rfl
    rw [← hMd]
    rintro e w4 ⟨v1, v2, rfl, hi1, hi2, hb4, hob⟩
    have hob' : v1.ownBlock ≠ some w.heap.size := fun hh => by have := hob _ hh; omega
    clear hob
    have hbx4 := (hb4.block w.heap.size hs2).trans hbx2
    have hbw4 := ext_trans hbw2 hb4
    clear hMd hb4 hbx2 hbw2
    generalize mergedF B = mm at *
    obtain ⟨outl, rest⟩ := mm
    obtain ⟨a1, k1, rfl⟩ := hi1.len
    obtain ⟨a2, k2, rfl⟩ := hi2.len
    simp only at hi1 hi2
    obtain ⟨g0, g1, g2, g4⟩ := box2 hbx4
    have hRo := HR.out
    simp only at hRo
    have HR2 := Lib.hid hRo
    clear hRo HR
    by_cases c1 : 0 < rest.length
    · have c1' : (0 : Int) < (rest.length : Int) := by omega
      have HC1 := Lib.hid c1
      clear c1
      go_wp2_with (go_at_call 34; refine (At_any _ _ _).mono ?_; rintro e w5 ⟨rfl, hb5⟩; simp only [faultV]; have hbx5 := (hb5.block w.heap.size g4).trans hbx4; obtain ⟨p0, p1, p2, p3⟩ := box2 hbx5)
      obtain ⟨q0, q1, _, q3⟩ := box2 (box2_set hbx5 (.int .i64 19) (.int .i64 (-1)))
      refine bodyPost_ret (v := .tuple #[.slice none 0 0, faultV 19 (-1)]) (by simp [results, Try.results15, go_sem, q0, q1, faultV]) rfl ⟨_, by rw [HR2.out, if_pos HC1.out], by rw [HR2.out, if_pos HC1.out]; exact RowOf.nil _ _, ?_⟩
      exact ((ext_trans hbw4 hb5).setCell (Nat.le_refl _) _).setCell (Nat.le_refl _) _
    · have c1' : ¬ (0 : Int) < (rest.length : Int) := by omega
      have HC1 := Lib.hid c1
      clear c1
      by_cases c2 : 40 ≤ outl.length
      · have c2' : (40 : Int) ≤ (outl.length : Int) := by omega
        have HC2 := Lib.hid c2
        clear c2
        go_wp2_with (go_at_call 34; refine (At_any _ _ _).mono ?_; rintro e w5 ⟨rfl, hb5⟩; simp only [faultV]; have hbx5 := (hb5.block w.heap.size g4).trans hbx4; obtain ⟨p0, p1, p2, p3⟩ := box2 hbx5)
        obtain ⟨q0, q1, _, q3⟩ := box2 (box2_set hbx5 (.int .i64 14) (.int .i64 (-1)))
        refine bodyPost_ret (v := .tuple #[.slice none 0 0, faultV 14 (-1)]) (by simp [results, Try.results15, go_sem, q0, q1, faultV]) rfl ⟨_, by rw [HR2.out, if_neg HC1.out, if_pos HC2.out], by rw [HR2.out, if_neg HC1.out, if_pos HC2.out]; exact RowOf.nil _ _, ?_⟩
        exact ((ext_trans hbw4 hb5).setCell (Nat.le_refl _) _).setCell (Nat.le_refl _) _
      · have c2' : ¬ (40 : Int) ≤ (outl.length : Int) := by omega
        have HC2 := Lib.hid c2
        clear c2
        go_wp2
        obtain ⟨q0, q1, _, q3⟩ := box2 (box2_set hbx4 (.int .i64 0) (.int .i64 0))
        refine bodyPost_ret (v := .tuple #[.slice a1 outl.length k1, faultV 0 0]) (by simp [results, Try.results15, go_sem, q0, q1, faultV]) rfl ⟨_, by rw [HR2.out, if_neg HC1.out, if_neg HC2.out], ?_, ?_⟩
        · rw [HR2.out, if_neg HC1.out, if_neg HC2.out]
          have hgr : w4.grownBy ((w4.setCell ⟨w.heap.size, 0, none⟩ (.int .i64 0)).setCell ⟨w.heap.size, 1, none⟩ (.int .i64 0)) (some w.heap.size) :=
            ⟨rfl, rfl, rfl, by simp, fun k _ hk => by rw [Below.heap_setCell _ _ _ _ (fun e => hk (by rw [e])), Below.heap_setCell _ _ _ _ (fun e => hk (by rw [e]))]⟩
          exact hi1.grown hgr (.inl hob')
        · exact (hbw4.setCell (Nat.le_refl _) _).setCell (Nat.le_refl _) _
  · have hR : orderF B = ([], cf) := by unfold orderF; rw [hcf, if_pos c0]
    rw [hR]
    have c0' : (cf.1 != 0) = true := by rw [bne_iff_ne]; exact c0
    obtain ⟨fc, fi⟩ := cf
    simp only at c0' hchk
    clear hcf c0 hR
    go_enter Try.func15, Try.ntmps15
    go_wp2_with (go_at_call 40; refine hchk.mono ?_; rintro e w1 ⟨rfl, hb1⟩; simp only [faultV]; have hbx1 := (hb1.block w.heap.size (by simp)).trans (heap_new w _); obtain ⟨g0, g1, g2, g3⟩ := box2 hbx1)
    go_region
    go_wp2
    obtain ⟨q0, q1, _, q3⟩ := box2 (w := ((((w1.setCell ⟨w.heap.size, 0, none⟩ (.int .i64 fc)).setCell ⟨w.heap.size, 1, none⟩ (.int .i64 fi)).alloc (.cells #[.int .i64 fc, .int .i64 fi] 27)).drew)) (box_alloc (box2_set hbx1 (.int .i64 fc) (.int .i64 fi)) (.cells #[.int .i64 fc, .int .i64 fi] 27))
    refine bodyPost_ret (v := .tuple #[.slice none 0 0, faultV fc fi]) (by simp [results, Try.results15, go_sem, q0, q1, faultV]) rfl ⟨_, rfl, RowOf.nil _ _, ?_⟩
    exact (((((ext_alloc w _).trans (hb1.mono (by simp))).setCell (Nat.le_refl _) _).setCell (Nat.le_refl _) _).alloc (by simp; omega) _).drew

set_option maxHeartbeats 400000 in
theorem RefInts_any (v1 v2 : Value) (l1 l2 : List Int) (w : World) (h1 : Ints w v1 l1) (h2 : Ints w v2 l2) :
    Calls Try.prog 16 #[v1, v2] w fun e w' => e = .returned (.bool (decide (l1 = l2))) ∧ Below w.heap.size w w' := by
  go_enter Try.func16, Try.ntmps16
  go_wp2_with (go_at_call 42; refine (EqualI_any _ _ l1 l2 _ h1 h2).mono ?_; rintro e w1 ⟨rfl, hb1⟩)
  go_ret
  exact ⟨rfl, hb1⟩

set_option maxRecDepth 100000 in
set_option maxHeartbeats 1000000 in
theorem OrderLaw_any (v : Value) (B : List (List Int)) (w : World) (hv : IntRows w v B) (hfit : ∀ y ∈ B, ∀ x ∈ y, Fits x) :
    Calls Try.prog 5 #[v] w fun e w' => e = .returned (.bool true) ∧ Below w.heap.size w w' := by
  have h1 := Order_any v B w hv hfit
  have href := fun W (hb : Below w.heap.size w W) => RefOrder_any v B W (hv.below hb)
  generalize (orderF B).2.1 = fc at *
  generalize (orderF B).2.2 = fi at *
  generalize (orderF B).1 = l at *
  have HREF := Lib.hid href
  clear href
  go_enter Try.func5, Try.ntmps5
  go_wp2_with (go_at_call 14; refine h1.mono ?_; rintro e w1 ⟨v1, rfl, hi1, hb1⟩; simp only [faultV])
  have hb2 : Below w.heap.size w (w1.alloc (.cells #[.int .i64 fc, .int .i64 fi] 27)) := hb1.alloc hb1.size _
  have hbx := heap_new w1 (.cells #[.int .i64 fc, .int .i64 fi] 27)
  have hi2 := hi1.below (ext_alloc w1 (.cells #[.int .i64 fc, .int .i64 fi] 27))
  have hs : w1.heap.size < (w1.alloc (.cells #[.int .i64 fc, .int .i64 fi] 27)).heap.size := by simp
  have h2 := HREF.out _ hb2
  clear h1 hb1 hi1
  generalize (w1.alloc (.cells #[.int .i64 fc, .int .i64 fi] 27)) = w2 at *
  generalize w1.heap.size = N1 at *
  refine h2.mono ?_
  rintro e w3 ⟨v2, rfl, hi3, hb3⟩
  simp only [faultV]
  have hbx3 := (hb3.block N1 hs).trans hbx
  obtain ⟨g0, g1, _, g3⟩ := box2 hbx3
  have hi2' := hi2.below hb3
  have hbw := ext_trans hb2 hb3
  clear h2 hbx hi2 hb3 hb2 hs HREF hbx3
  have heq := fun W (h1 : Ints W v1 l) (h2 : Ints W v2 l) => RefInts_any v1 v2 l l W h1 h2
  simp only [decide_true] at heq
  have HEQ := Lib.hid heq
  clear heq
  go_wp2_with (go_at_call 16; refine (HEQ.out _ (hi2'.below (ext_alloc _ _)) (hi3.below (ext_alloc _ _))).mono ?_; rintro e w5 ⟨rfl, hb5⟩)
  go_ret
  exact ⟨ret_bool (by simp), (hbw.alloc hbw.size _).trans (hb5.mono (by have := hbw.size; simp; omega))⟩
end Go.Proofs.Ytbickehhnkhabaa
