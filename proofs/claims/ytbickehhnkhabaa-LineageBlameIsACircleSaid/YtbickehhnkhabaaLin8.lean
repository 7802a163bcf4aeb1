/- Walks: check. -/
import Derived.Test.YtbickehhnkhabaaLin7
namespace Go.Proofs.Ytbickehhnkhabaa
open Go.RowKit

theorem Ints.row {w : World} {v : Value} {l : List Int} (h : Ints w v l) : Row w v (l.map (Value.int .i64)) := by
  obtain ⟨a, cap, rfl, hl, hm, hc⟩ := h
  refine ⟨a, cap, by simp, by simpa using hl, hm, fun i hi => ?_⟩
  obtain ⟨b, off, rfl, hcell⟩ := hc i (by simpa using hi)
  exact ⟨b, off, rfl, by simpa using hcell⟩

theorem neg_any (v : Value) (l : List Int) (w : World) (hv : Ints w v l) :
    Calls Try.prog 64 #[v, .func (.func 65) #[] #[]] w fun e w' => e = .returned (.bool (negI l)) ∧ Below w.heap.size w w' := by
  have h := ContainsFuncI_any v (l.map (Value.int .i64)) (fun i => decide (l.getD i 0 < 0)) 65 #[] w hv.row (enters_of Try.func65 (by kernel_rfl) rfl)
    (fun i hi W _ => by
      have hi' : i < l.length := by simpa using hi
      have e1 : (#[(l.map (Value.int .i64))[i]] ++ #[] : Array Value) = #[.int .i64 l[i]] := by simp
      have e2 : l.getD i 0 = l[i] := by simp [List.getD, hi']
      rw [e1]
      simp only [e2]
      exact (checkNeg_any l[i] W).mono fun e W' ⟨he, hw⟩ => ⟨he, hw ▸ Below.refl _ _⟩)
  have hq : decide (0 ≤ firstFrom (fun i => decide (l.getD i 0 < 0)) l.length 0) = negI l := firstFrom_any l _ _ (fun i hi => by simp [List.getD, hi])
  rw [List.length_map, hq] at h
  exact h

theorem heads_any (v u : Value) (B : List (List Int)) (l : List Int) (c : Nat) (w : World) (hv : IntRows w v B) (hne : ∀ y ∈ B, y ≠ []) (hu : Ints w u l) (hpos : 0 < l.length) (hc : w.cell? ⟨c, 0, none⟩ = some u) :
    Calls Try.prog 67 #[v, .func (.func 68) #[] #[.pointer (some ⟨c, 0, none⟩)]] w fun e w' => e = .returned (.bool (headsHave B (headI l))) ∧ Below w.heap.size w w' := by
  obtain ⟨vs, hl, hrow, hi⟩ := hv
  have h := ContainsFuncL_any v vs (fun i => headI (B.getD i []) == headI l) 68 #[.pointer (some ⟨c, 0, none⟩)] w hrow (enters_of Try.func68 (by kernel_rfl) rfl)
    (fun i hlt W hb => by
      have hB : i < B.length := by omega
      have h1 := checkHead_any vs[i] u B[i] l c W ((hi i hB).below hb) (hu.below hb) (List.length_pos_iff.2 (hne _ (List.getElem_mem hB))) hpos (by rw [hb.cell (p := ⟨c, 0, none⟩) (World.block_lt_of_cell? _ _ hc)]; exact hc)
      have h2 : B.getD i [] = B[i] := by simp [List.getD, hB]
      simp only [h2]
      exact h1)
  have hq : decide (0 ≤ firstFrom (fun i => headI (B.getD i []) == headI l) B.length 0) = headsHave B (headI l) := firstFrom_any B _ _ (fun i hi => by simp [List.getD, hi])
  rw [hl, hq] at h
  exact h

theorem IntRows.take {w : World} {v : Value} {B : List (List Int)} (h : IntRows w v B) {k : Nat} (hk : k ≤ B.length) :
    ∃ u, IntRows w u (B.take k) ∧ ∀ W, (Instr.slice 30 v none (some (.int .i64 k)) none).run Try.prog W = .ok u W := by
  obtain ⟨vs, hl, hrow, hi⟩ := h
  obtain ⟨i0, hii, _, hz1, _⟩ := info_parts infoInts
  obtain ⟨u, hu, _, _, _, h0⟩ := RowOf.slice hrow Try.underlying30 hii hz1 (lo := 0) (hi' := k) (Nat.zero_le _) (by omega)
  refine ⟨u, ⟨vs.take k, by simp; omega, by simpa using hu, fun i hi' => ?_⟩, h0 rfl⟩
  have hlt : i < k ∧ i < B.length := by simp at hi'; omega
  simpa using hi i hlt.2

set_option maxRecDepth 100000 in
set_option maxHeartbeats 2000000 in
theorem check_any (v : Value) (B : List (List Int)) (w : World) (hv : IntRows w v B) (hfit : ∀ y ∈ B, ∀ x ∈ y, Fits x) :
    Calls Try.prog 36 #[v] w fun e w' => e = .returned (faultV (chkF B).1 (chkF B).2) ∧ Below w.heap.size w w' := by
  obtain ⟨vs, hl, hrow, hi⟩ := hv
  obtain ⟨a, cap, rfl, hlc, hbig, hc⟩ := id hrow
  by_cases h8 : 8 < vs.length
  · have hR : chkF B = (2, -1) := by unfold chkF; rw [if_pos (by omega)]
    rw [hR]
    clear hR
    rw [hl] at h8
    go_enter Try.func36, Try.ntmps36
    go_wp2_with (go_at_call 39; refine (fault_any _ _ _).mono ?_; rintro e w1 ⟨rfl, hb1⟩; simp only [faultV]; have hbx := (hb1.block w.heap.size (by simp)).trans (heap_new w _); obtain ⟨g0, g1, g2, g3⟩ := box2 hbx)
    obtain ⟨q0, q1, _⟩ := box2 (box2_set hbx (.int .i64 2) (.int .i64 (-1)))
    exact bodyPost_ret (v := faultV 2 (-1)) (by simp [results, Try.results36, go_sem, q0, q1, faultV]) rfl ⟨rfl, (((ext_alloc w _).trans (hb1.mono (by simp))).setCell (by simp) _).setCell (by simp) _⟩
  · have h8' : B.length ≤ 8 := by omega
    have hR : chkF B = chkFrom B 0 B := by unfold chkF; rw [if_neg (by omega)]
    have HR := Lib.hid hR
    clear hR h8
    have hlen : ¬ (8 : Int) < (B.length : Int) := by omega
    have HL := Lib.hid hl
    have HI := Lib.hid hi
    have HC := Lib.hid hc
    have HRow := Lib.hid hrow
    have hlcB : B.length ≤ cap := by omega
    clear hi hc hlc hrow
    rw [hl] at HRow
    have HV : Hid (IntRows w (.slice a B.length cap) B) := ⟨vs, hl, HRow.out, HI.out⟩
    go_enter Try.func36, Try.ntmps36
    go_wp2
    go_loopw [11] (fun s11 wr => ∃ k : Nat, k ≤ B.length ∧ s11 = .int .i64 k ∧ Below (w.heap.size + 1) (w.alloc (.cells #[.int .i64 0, .int .i64 0] 27)) wr ∧ Hid (chkF B = chkFrom B k (B.drop k)) ∧ Hid (∀ y ∈ B.take k, y ≠ [])) (fun s11 _ => B.length - (intOf s11).toNat)
    case atStart => exact ⟨0, Nat.zero_le _, rfl, Below.refl _ _, HR, fun y hy => by simp at hy⟩
    case round =>
      obtain ⟨k, hk, rfl, hbel, hr, hpre⟩ := hrel
      have hbw : Below w.heap.size w wr := (ext_alloc w _).trans (hbel.mono (by omega))
      have hbx := (hbel.block w.heap.size (by omega)).trans (heap_new w _)
      obtain ⟨g0, g1, g2, g3⟩ := box2 hbx
      have HBX := Lib.hid hbx
      clear hbx
      by_cases hB : k < B.length
      · obtain ⟨b, off, rfl, hcell⟩ := HC.out k (by have := HL.out; omega)
        have hD := chkFrom_drop B k hB
        have hil := HI.out k hB
        have hfl := hfit B[k] (List.getElem_mem hB)
        have hcell' : wr.cell? ⟨b, off + k, none⟩ = some (vs[k]'(by have := HL.out; omega)) := by rw [hbw.cell (World.block_lt_of_cell? _ _ hcell)]; exact hcell
        generalize hvk : vs[k]'(by have := HL.out; omega) = y at *
        clear hvk hcell
        obtain ⟨uu, huu, hsl⟩ := IntRows.take HV.out (k := k) hk
        generalize hBk : B[k] = l at *
        have HBk := Lib.hid hBk
        clear hBk
        obtain ⟨ay, ny, cy, hy⟩ := hil.isSlice
        have hny : ny = l.length := by obtain ⟨_, _, h, _⟩ := hil; rw [hy] at h; simp at h; exact h.2.1
        subst hny
        rw [hy] at hil hcell'
        clear hy
        have HBX0 := Lib.hid ((Below.heap_alloc wr (.cells #[.slice ay l.length cy] 22) w.heap.size (by omega)).trans HBX.out)
        have hbw0 : Below w.heap.size w (wr.alloc (.cells #[.slice ay l.length cy] 22)) := hbw.alloc (by omega) _
        have hil0 := hil.below hbw0
        have huu0 := huu.below hbw0
        by_cases c1 : l.length = 0
        · rw [if_pos c1] at hD
          have HD := Lib.hid hD
          clear hD
          have c1' : ((l.length : Int) == 0) = true := by simp [c1]
          rw [c1] at hcell' c1' hbw0 HBX0
          have HN0 := Lib.hid c1
          clear c1 hil hsl HV hfl hil0 huu0
          go_wp2_with (go_at_call 39; refine (fault_any _ _ _).mono ?_; rintro e w1 ⟨rfl, hb1⟩; simp only [faultV]; have hbx1 := (hb1.block w.heap.size (by simp; omega)).trans HBX0.out; obtain ⟨g0, g1, g2, g3⟩ := box2 hbx1)
          obtain ⟨q0, q1, _⟩ := box2 (box2_set hbx1 (.int .i64 10) (.int .i64 k))
          exact bodyPost_ret (v := faultV 10 k) (by simp [results, Try.results36, go_sem, q0, q1, faultV]) rfl ⟨by rw [hr.out, HD.out], ((hbw0.trans (hb1.mono (by simp; omega))).setCell (Nat.le_refl _) _).setCell (Nat.le_refl _) _⟩
        · rw [if_neg c1] at hD
          have c1' : ((l.length : Int) == 0) = false := beq_eq_false_iff_ne.2 (by omega)
          have hpos : 0 < l.length := by omega
          clear c1
          by_cases c2 : 40 < l.length
          · rw [if_pos c2] at hD
            have HD := Lib.hid hD
            clear hD
            have c2' : (40 : Int) < (l.length : Int) := by omega
            clear hil hsl HV hfl hil0 huu0
            go_wp2_with (go_at_call 39; refine (fault_any _ _ _).mono ?_; rintro e w1 ⟨rfl, hb1⟩; simp only [faultV]; have hbx1 := (hb1.block w.heap.size (by simp; omega)).trans HBX0.out; obtain ⟨g0, g1, g2, g3⟩ := box2 hbx1)
            obtain ⟨q0, q1, _⟩ := box2 (box2_set hbx1 (.int .i64 2) (.int .i64 k))
            exact bodyPost_ret (v := faultV 2 k) (by simp [results, Try.results36, go_sem, q0, q1, faultV]) rfl ⟨by rw [hr.out, HD.out], ((hbw0.trans (hb1.mono (by simp; omega))).setCell (Nat.le_refl _) _).setCell (Nat.le_refl _) _⟩
          · rw [if_neg c2] at hD
            have c2' : ¬ (40 : Int) < (l.length : Int) := by omega
            clear c2
            have hneg := neg_any _ l _ hil0
            cases c3 : negI l with
            | true =>
              rw [c3] at hneg hD
              rw [if_pos rfl] at hD
              have HD := Lib.hid hD
              clear hD c3 hil hsl HV hfl hil0 huu0
              go_wp2_with (first | (go_at_call 64; refine hneg.mono ?_; rintro e w1 ⟨rfl, hb1⟩; have hbx1 := (hb1.block w.heap.size (by simp; omega)).trans HBX0.out; have HBX1 := Lib.hid hbx1; clear hbx1) | (go_at_call 39; refine (fault_any _ _ _).mono ?_; rintro e w2 ⟨rfl, hb2⟩; simp only [faultV]; have hbx2 := (hb2.block w.heap.size (by have := hb1.size; simp at this; omega)).trans HBX1.out; obtain ⟨g0, g1, g2, g3⟩ := box2 hbx2))
              obtain ⟨q0, q1, _⟩ := box2 (box2_set hbx2 (.int .i64 4) (.int .i64 k))
              exact bodyPost_ret (v := faultV 4 k) (by simp [results, Try.results36, go_sem, q0, q1, faultV]) rfl ⟨by rw [hr.out, HD.out], (((hbw0.trans (hb1.mono (by simp; omega))).trans (hb2.mono (by have := hb1.size; simp at this; omega))).setCell (Nat.le_refl _) _).setCell (Nat.le_refl _) _⟩
            | false =>
              rw [c3] at hneg hD
              rw [if_neg (by simp)] at hD
              clear c3
              have harm1 : ∀ w1, Below (wr.alloc (.cells #[.slice ay l.length cy] 22)).heap.size (wr.alloc (.cells #[.slice ay l.length cy] 22)) w1 →
                  w1.cell? ⟨wr.heap.size, 0, none⟩ = some (.slice ay l.length cy) ∧ wr.heap.size < w1.heap.size ∧ Hid (w1.heap[w.heap.size]? = some (.cells #[.int .i64 0, .int .i64 0] 27)) ∧ Below w.heap.size w w1 := fun w1 hb1 => by
                have hbl1 := (hb1.block wr.heap.size (by simp)).trans (heap_new wr _)
                obtain ⟨p0, _, p2⟩ := box1 hbl1
                exact ⟨p0, p2, (hb1.block w.heap.size (by simp; omega)).trans HBX0.out, hbw0.trans (hb1.mono (by simp; omega))⟩
              have hrep := fun w1 (hb1 : Below (wr.alloc (.cells #[.slice ay l.length cy] 22)).heap.size (wr.alloc (.cells #[.slice ay l.length cy] 22)) w1) => repeats_any _ l w1 (hil0.below hb1) hfl
              have hhd := fun w2 (hb2 : Below (wr.alloc (.cells #[.slice ay l.length cy] 22)).heap.size (wr.alloc (.cells #[.slice ay l.length cy] 22)) w2) hc => heads_any uu _ (B.take k) l wr.heap.size w2 (huu0.below hb2) hpre.out (hil0.below hb2) hpos hc
              generalize headI l = n at *
              cases c4 : dupI l with
              | true =>
                simp only [c4] at hrep
                rw [c4, Bool.true_or, if_pos rfl] at hD
                have HD := Lib.hid hD
                clear hD c4 hhd hil hil0 huu0 hsl HV hfl
                have HREP := Lib.hid hrep
                have HARM := Lib.hid harm1
                clear hrep harm1
                go_wp2_with (first | (go_at_call 64; refine hneg.mono ?_; rintro e w1 ⟨rfl, hb1⟩; obtain ⟨p0, p1, p2, p3⟩ := HARM.out w1 hb1) | (go_at_call 66; refine (HREP.out _ (by assumption)).mono ?_; rintro e w2 ⟨rfl, hb2⟩) | (go_at_call 39; refine (fault_any _ _ _).mono ?_; rintro e w3 ⟨rfl, hb3⟩; simp only [faultV]; have hbx3 := (hb3.block w.heap.size (by have := hb2.size; omega)).trans ((hb2.block w.heap.size (by omega)).trans p2.out); obtain ⟨g0, g1, g2, g3⟩ := box2 hbx3))
                obtain ⟨q0, q1, _⟩ := box2 (box2_set hbx3 (.int .i64 8) (.int .i64 k))
                exact bodyPost_ret (v := faultV 8 k) (by simp [results, Try.results36, go_sem, q0, q1, faultV]) rfl ⟨by rw [hr.out, HD.out], ((ext_trans (ext_trans p3 hb2) hb3).setCell (Nat.le_refl _) _).setCell (Nat.le_refl _) _⟩
              | false =>
                simp only [c4] at hrep
                rw [c4, Bool.false_or] at hD
                clear c4
                cases c5 : headsHave (B.take k) n with
                | true =>
                  simp only [c5] at hhd
                  rw [c5, if_pos rfl] at hD
                  have HD := Lib.hid hD
                  clear hD c5 hil hil0 huu0 HV hfl
                  have HREP := Lib.hid hrep
                  have HARM := Lib.hid harm1
                  have HHD := Lib.hid hhd
                  clear hrep harm1 hhd
                  go_wp2_with (first | (go_at_call 64; refine hneg.mono ?_; rintro e w1 ⟨rfl, hb1⟩; obtain ⟨p0, p1, p2, p3⟩ := HARM.out w1 hb1) | (go_at_call 66; refine (HREP.out _ (by assumption)).mono ?_; rintro e w2 ⟨rfl, hb2⟩; have hb12 := ext_trans hb1 hb2; obtain ⟨r0, r1, r2, r3⟩ := HARM.out w2 hb12) | (go_at_call 67; refine (HHD.out w2 hb12 r0).mono ?_; rintro e w3 ⟨rfl, hb3⟩) | (go_at_call 39; refine (fault_any _ _ _).mono ?_; rintro e w4 ⟨rfl, hb4⟩; simp only [faultV]; have hbx4 := (hb4.block w.heap.size (by have := hb3.size; have := hb2.size; omega)).trans ((hb3.block w.heap.size (by have := hb2.size; omega)).trans r2.out); obtain ⟨g0, g1, g2, g3⟩ := box2 hbx4))
                  obtain ⟨q0, q1, _⟩ := box2 (box2_set hbx4 (.int .i64 8) (.int .i64 k))
                  exact bodyPost_ret (v := faultV 8 k) (by simp [results, Try.results36, go_sem, q0, q1, faultV]) rfl ⟨by rw [hr.out, HD.out], ((ext_trans (ext_trans r3 hb3) hb4).setCell (Nat.le_refl _) _).setCell (Nat.le_refl _) _⟩
                | false =>
                  simp only [c5] at hhd
                  rw [c5, if_neg (by simp)] at hD
                  have HD := Lib.hid hD
                  clear hD c5 hil hil0 huu0 HV hfl
                  have HREP := Lib.hid hrep
                  have HARM := Lib.hid harm1
                  have HHD := Lib.hid hhd
                  clear hrep harm1 hhd
                  have hW0 : Below (w.heap.size + 1) (w.alloc (.cells #[.int .i64 0, .int .i64 0] 27)) (wr.alloc (.cells #[.slice ay l.length cy] 22)) := hbel.alloc (by omega) _
                  go_wp2_with (first | (go_at_call 64; refine hneg.mono ?_; rintro e w1 ⟨rfl, hb1⟩; obtain ⟨p0, p1, p2, p3⟩ := HARM.out w1 hb1) | (go_at_call 66; refine (HREP.out _ (by assumption)).mono ?_; rintro e w2 ⟨rfl, hb2⟩; have hb12 := ext_trans hb1 hb2; obtain ⟨r0, r1, r2, r3⟩ := HARM.out w2 hb12) | (go_at_call 67; refine (HHD.out w2 hb12 r0).mono ?_; rintro e w3 ⟨rfl, hb3⟩))
                  go_roundw
                  case rel =>
                    refine ⟨k + 1, by omega, by go_num, hW0.trans ((ext_trans hb12 hb3).mono (by simp; omega)), by unfold Hid; rw [hr.out, HD.out], ?_⟩
                    intro y hy
                    rw [List.take_succ_eq_append_getElem hB] at hy
                    rcases List.mem_append.1 hy with h | h
                    · exact hpre.out y h
                    · simp at h; rw [h, HBk.out]; intro e; rw [e] at hpos; simp at hpos
                  case measure => simp [intOf]; omega
      · have hk' : k = B.length := by omega
        have HK := Lib.hid hk'
        clear hk'
        go_wp2
        obtain ⟨q0, q1, _⟩ := box2 (box2_set HBX.out (.int .i64 0) (.int .i64 0))
        exact bodyPost_ret (v := faultV 0 0) (by simp [results, Try.results36, go_sem, q0, q1, faultV]) rfl ⟨by rw [hr.out, HK.out, List.drop_length]; rfl, (hbw.setCell (Nat.le_refl _) _).setCell (Nat.le_refl _) _⟩
end Go.Proofs.Ytbickehhnkhabaa
