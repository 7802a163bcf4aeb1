/- Walks: the reference's OrdersFault. -/
import Derived.Test.YtbickehhnkhabaaLin8
import Derived.Test.YtbickehhnkhabaaLin5
namespace Go.Proofs.Ytbickehhnkhabaa
open Go.RowKit

theorem Ints.take {w : World} {v : Value} {l : List Int} (h : Ints w v l) {k : Nat} (hk : k ≤ l.length) :
    ∃ u, Ints w u (l.take k) ∧ ∀ W, (Instr.slice 22 v none (some (.int .i64 k)) none).run Try.prog W = .ok u W := by
  obtain ⟨u, hu, _, _, _, h0⟩ := Ints.slice h (lo := 0) (hi' := k) (Nat.zero_le _) hk
  exact ⟨u, by simpa using hu, h0 rfl⟩

set_option maxRecDepth 100000 in
set_option maxHeartbeats 4000000 in
theorem OrdersFault_any (v : Value) (B : List (List Int)) (w : World) (hv : IntRows w v B) :
    Calls Try.prog 40 #[v] w fun e w' => e = .returned (faultV (chkF B).1 (chkF B).2) ∧ Below w.heap.size w w' := by
  obtain ⟨vs, hl, hrow, hi⟩ := hv
  obtain ⟨a, cap, rfl, hlc, hbig, hc⟩ := hrow
  obtain ⟨i0, hii, hz0, hz1, hz2⟩ := info_parts infoInt
  by_cases h8 : 8 < vs.length
  · have hR : chkF B = (2, -1) := by unfold chkF; rw [if_pos (by omega)]
    rw [hR]
    clear hR
    rw [hl] at h8
    go_enter Try.func40, Try.ntmps40
    go_wp2_with (go_at_call 34; refine (At_any _ _ _).mono ?_; rintro e w1 ⟨rfl, hb1⟩; simp only [faultV]; have hbx := (hb1.block w.heap.size (by simp)).trans (heap_new w _); obtain ⟨g0, g1, g2, g3⟩ := box2 hbx)
    obtain ⟨q0, q1, _⟩ := box2 (box2_set hbx (.int .i64 2) (.int .i64 (-1)))
    exact bodyPost_ret (v := faultV 2 (-1)) (by simp [results, Try.results40, go_sem, q0, q1, faultV]) rfl ⟨rfl, (((ext_alloc w _).trans (hb1.mono (by simp))).setCell (by simp) _).setCell (by simp) _⟩
  · have h8' : B.length ≤ 8 := by omega
    have hR : chkF B = chkFrom B 0 B := by unfold chkF; rw [if_neg (by omega)]
    have HR := Lib.hid hR
    clear hR h8
    have hlen : ¬ (8 : Int) < (B.length : Int) := by omega
    have HL := Lib.hid hl
    have HI := Lib.hid hi
    have HC := Lib.hid hc
    have hlcB : B.length ≤ cap := by omega
    clear hi hc hlc
    go_enter Try.func40, Try.ntmps40
    go_wp2
    go_loopg [3, 16] B.length (fun qq s3 s16 wr => ∃ k : Nat, k ≤ B.length ∧ B.length - k ≤ qq ∧ s16 = .int .i64 k ∧ Below (w.heap.size + 1) (w.alloc (.cells #[.int .i64 0, .int .i64 0] 27)) wr ∧ wr.ownsRow (w.heap.size + 1) 3 1 s3 k (headVals B k) ∧ Hid (chkF B = chkFrom B k (B.drop k)))
    case atStart => exact ⟨0, Nat.zero_le _, by omega, rfl, Below.refl _ _, World.ownsRow_nil _ _ _ _, HR⟩
    case round =>
      obtain ⟨k, hk, hqq, rfl, hbel, hownh, hr⟩ := hrel
      have hbw : Below w.heap.size w wr := (ext_alloc w _).trans (hbel.mono (by omega))
      have hbx := (hbel.block w.heap.size (by omega)).trans (heap_new w _)
      obtain ⟨g0, g1, g2, g3⟩ := box2 hbx
      have HBX := Lib.hid hbx
      clear hbx
      by_cases hB : k < B.length
      · obtain ⟨b, off, rfl, hcell⟩ := HC.out k (by have := HL.out; omega)
        have hD := chkFrom_drop B k hB
        have hil := HI.out k hB
        have hcell' : wr.cell? ⟨b, off + k, none⟩ = some (vs[k]'(by have := HL.out; omega)) := by rw [hbw.cell (World.block_lt_of_cell? _ _ hcell)]; exact hcell
        have HT := Lib.hid (headVals_succ B k hB)
        generalize hvk : vs[k]'(by have := HL.out; omega) = y at *
        clear hvk hcell
        generalize hBk : B[k] = l at *
        have HBk := Lib.hid hBk
        clear hBk
        have hilr := hil.below hbw
        obtain ⟨ay, cy, rfl, hly, hmy, hcy⟩ := id hilr
        have HCY := Lib.hid hcy
        have HDD := Lib.hid hD
        clear hcy hD
        go_wp2
        obtain ⟨wo, hwo⟩ : ∃ wo : World, wo = wr := ⟨_, rfl⟩
        subst hwo
        go_loopg [6, 7, 23] l.length (fun q s6 s7 s23 wi => ∃ j : Nat, ∃ tw lo, j ≤ l.length ∧ l.length - j ≤ q ∧ s23 = .int .i64 j ∧ s6 = .bool tw ∧ s7 = .int .i64 lo ∧ wi = wo ∧ Hid (tw = dupI (l.take j)) ∧ Hid (lo = lowI (l.take j)))
        case atStart => exact ⟨0, false, 0, Nat.zero_le _, by omega, rfl, rfl, rfl, rfl, rfl, rfl⟩
        case round =>
          obtain ⟨j, tw, lo, hj, hq, rfl, rfl, rfl, rfl, htw, hlo⟩ := hrel
          by_cases hjl : j < l.length
          · obtain ⟨b2, o2, rfl, hcell2⟩ := HCY.out j hjl
            obtain ⟨u, hu, hsl⟩ := Ints.take hilr (k := j) hj
            have hDT := Lib.hid (dupI_take l j hjl)
            have hLT := Lib.hid (lowI_take l j hjl)
            generalize l[j] = x at *
            cases tw with
            | true =>
              go_wp2
              all_goals go_roundg (l.length - (j + 1))
              case measure => omega
              case rel => exact ⟨j + 1, true, _, by omega, by omega, by go_num, rfl, rfl, rfl, by unfold Hid; rw [hDT.out, ← htw.out]; rfl, by unfold Hid; rw [hLT.out, ← hlo.out]; omega⟩
              case measure => omega
              case rel => exact ⟨j + 1, true, _, by omega, by omega, by go_num, rfl, rfl, rfl, by unfold Hid; rw [hDT.out, ← htw.out]; rfl, by unfold Hid; rw [hLT.out, ← hlo.out]; omega⟩
            | false =>
              go_wp2_with (go_at_call 17; refine (HasInt_any _ _ _ _ hu).mono ?_; rintro e w1 ⟨rfl, rfl⟩)
              all_goals go_roundg (l.length - (j + 1))
              case measure => omega
              case rel => exact ⟨j + 1, _, _, by omega, by omega, by go_num, rfl, rfl, rfl, by unfold Hid; rw [hDT.out, ← htw.out]; rfl, by unfold Hid; rw [hLT.out, ← hlo.out]; omega⟩
              case measure => omega
              case rel => exact ⟨j + 1, _, _, by omega, by omega, by go_num, rfl, rfl, rfl, by unfold Hid; rw [hDT.out, ← htw.out]; rfl, by unfold Hid; rw [hLT.out, ← hlo.out]; omega⟩
          · have hjl' : j = l.length := by omega
            have hD := HDD.out
            have e1 : dupI l = tw := by rw [htw.out, hjl', List.take_length]
            have e2 : negI l = decide (lo < 0) := by rw [hlo.out, hjl', List.take_length, lowI_neg]
            have e3 : ∀ n, headsHave (B.take k) n = hasI ((B.take k).map headI) n := fun n => (headsHave_has _ _).symm
            rw [e1, e2, e3] at hD
            clear e1 e2 e3 htw hlo HDD hjl' hj
            have hih : Ints wr u3 ((B.take k).map headI) := Ints_of_own (own_cast hownh (by simp; omega) rfl)
            by_cases c1 : l.length = 0
            · rw [if_pos c1] at hD
              have HD := Lib.hid hD
              clear hD
              have c1' : ((l.length : Int) == 0) = true := by simp [c1]
              have HN0 := Lib.hid c1
              rw [c1] at c1' hcell'
              rw [c1] at hjl ⊢
              clear c1 hil hilr
              go_wp2_with (go_at_call 34; refine (At_any _ _ _).mono ?_; rintro e w1 ⟨rfl, hb1⟩; simp only [faultV]; have hbx1 := (hb1.block w.heap.size (by omega)).trans HBX.out; obtain ⟨g0, g1, g2, g3⟩ := box2 hbx1)
              obtain ⟨q0, q1, _⟩ := box2 (box2_set hbx1 (.int .i64 10) (.int .i64 k))
              exact bodyPost_ret (v := faultV 10 k) (by simp [results, Try.results40, go_sem, q0, q1, faultV]) rfl ⟨by rw [hr.out, HD.out], ((ext_trans hbw hb1).setCell (Nat.le_refl _) _).setCell (Nat.le_refl _) _⟩
            · rw [if_neg c1] at hD
              have c1' : ((l.length : Int) == 0) = false := beq_eq_false_iff_ne.2 (by omega)
              have hpos : 0 < l.length := by omega
              clear c1
              by_cases c2 : 40 < l.length
              · rw [if_pos c2] at hD
                have HD := Lib.hid hD
                clear hD
                have c2' : (40 : Int) < (l.length : Int) := by omega
                clear hil hilr
                go_wp2_with (go_at_call 34; refine (At_any _ _ _).mono ?_; rintro e w1 ⟨rfl, hb1⟩; simp only [faultV]; have hbx1 := (hb1.block w.heap.size (by omega)).trans HBX.out; obtain ⟨g0, g1, g2, g3⟩ := box2 hbx1)
                obtain ⟨q0, q1, _⟩ := box2 (box2_set hbx1 (.int .i64 2) (.int .i64 k))
                exact bodyPost_ret (v := faultV 2 k) (by simp [results, Try.results40, go_sem, q0, q1, faultV]) rfl ⟨by rw [hr.out, HD.out], ((ext_trans hbw hb1).setCell (Nat.le_refl _) _).setCell (Nat.le_refl _) _⟩
              · rw [if_neg c2] at hD
                have c2' : ¬ (40 : Int) < (l.length : Int) := by omega
                clear c2
                by_cases c3 : lo < 0
                · rw [if_pos (by simpa using c3)] at hD
                  have HD := Lib.hid hD
                  clear hD hil hilr
                  go_wp2_with (go_at_call 34; refine (At_any _ _ _).mono ?_; rintro e w1 ⟨rfl, hb1⟩; simp only [faultV]; have hbx1 := (hb1.block w.heap.size (by omega)).trans HBX.out; obtain ⟨g0, g1, g2, g3⟩ := box2 hbx1)
                  obtain ⟨q0, q1, _⟩ := box2 (box2_set hbx1 (.int .i64 4) (.int .i64 k))
                  exact bodyPost_ret (v := faultV 4 k) (by simp [results, Try.results40, go_sem, q0, q1, faultV]) rfl ⟨by rw [hr.out, HD.out], ((ext_trans hbw hb1).setCell (Nat.le_refl _) _).setCell (Nat.le_refl _) _⟩
                · rw [if_neg (by simpa using c3)] at hD
                  obtain ⟨bx, ox, rfl, hcx0⟩ := HCY.out 0 hpos
                  rw [headI_getElem _ hpos] at hcx0
                  have hcx1 : wr.cell? ⟨bx, ox, none⟩ = some (.int .i64 (headI l)) := hcx0
                  clear hcx0 HCY hil hilr
                  generalize headI l = n at *
                  cases tw with
                  | true =>
                    rw [Bool.true_or, if_pos rfl] at hD
                    have HD := Lib.hid hD
                    clear hD
                    go_wp2_with (go_at_call 34; refine (At_any _ _ _).mono ?_; rintro e w1 ⟨rfl, hb1⟩; simp only [faultV]; have hbx1 := (hb1.block w.heap.size (by omega)).trans HBX.out; obtain ⟨g0, g1, g2, g3⟩ := box2 hbx1)
                    obtain ⟨q0, q1, _⟩ := box2 (box2_set hbx1 (.int .i64 8) (.int .i64 k))
                    exact bodyPost_ret (v := faultV 8 k) (by simp [results, Try.results40, go_sem, q0, q1, faultV]) rfl ⟨by rw [hr.out, HD.out], ((ext_trans hbw hb1).setCell (Nat.le_refl _) _).setCell (Nat.le_refl _) _⟩
                  | false =>
                    rw [Bool.false_or] at hD
                    have hhas := HasInt_any u3 _ n wr hih
                    cases c5 : hasI ((B.take k).map headI) n with
                    | true =>
                      rw [c5] at hhas hD
                      rw [if_pos rfl] at hD
                      have HD := Lib.hid hD
                      clear hD c5 hih
                      go_wp2_with (first | (go_at_call 17; refine hhas.mono ?_; rintro e w1 ⟨rfl, rfl⟩) | (go_at_call 34; refine (At_any _ _ _).mono ?_; rintro e w1 ⟨rfl, hb1⟩; simp only [faultV]; have hbx1 := (hb1.block w.heap.size (by omega)).trans HBX.out; obtain ⟨g0, g1, g2, g3⟩ := box2 hbx1))
                      obtain ⟨q0, q1, _⟩ := box2 (box2_set hbx1 (.int .i64 8) (.int .i64 k))
                      exact bodyPost_ret (v := faultV 8 k) (by simp [results, Try.results40, go_sem, q0, q1, faultV]) rfl ⟨by rw [hr.out, HD.out], ((ext_trans hbw hb1).setCell (Nat.le_refl _) _).setCell (Nat.le_refl _) _⟩
                    | false =>
                      rw [c5] at hhas hD
                      rw [if_neg (by simp)] at hD
                      have HD := Lib.hid hD
                      clear hD c5 hih
                      go_wp2_with (first | (go_at_call 17; refine hhas.mono ?_; rintro e w1 ⟨rfl, rfl⟩) | (at_builtin; refine wpList_append_own _ rfl _ _ 22 rfl (w.heap.size + 1) 3 i0 (.int .i64 0) 1 8 Try.underlying22 hii hz0 hz1 hz2 rfl (by decide) _ _ _ rfl (hownh.alloc _) ⟨wr.heap.size, 0, none⟩ 1 1 [.int .i64 n] rfl rfl ?c1 ?c2 ?c3 ?c4 ?c5 ?_))
                      case c1 => exact cell_one_new _ _ _
                      case c2 => simp [Value.oneCell']
                      case c3 => rw [maxLen_eq']; omega
                      case c4 => omega
                      case c5 => simp; omega
                      intro v' w2 hown2 hgr2 _
                      have hb2 : Below (w.heap.size + 1) (w.alloc (.cells #[.int .i64 0, .int .i64 0] 27)) w2 := (hbel.alloc (by omega) _).grown hgr2 (by simp; omega) (fun q hq => (hownh.lt q hq).1)
                      have hown2' := own_cast hown2 rfl HT.out.symm
                      clear hown2 hgr2
                      go_wp2
                      go_roundg (B.length - (k + 1))
                      case measure => omega
                      case rel => exact ⟨k + 1, by omega, by omega, by go_num, hb2, hown2', by unfold Hid; rw [hr.out, HD.out]⟩
      · have hk' : k = B.length := by omega
        have HK := Lib.hid hk'
        clear hk'
        go_wp2
        obtain ⟨q0, q1, _⟩ := box2 (box2_set HBX.out (.int .i64 0) (.int .i64 0))
        exact bodyPost_ret (v := faultV 0 0) (by simp [results, Try.results40, go_sem, q0, q1, faultV]) rfl ⟨by rw [hr.out, HK.out, List.drop_length]; rfl, (hbw.setCell (Nat.le_refl _) _).setCell (Nat.le_refl _) _⟩
end Go.Proofs.Ytbickehhnkhabaa
