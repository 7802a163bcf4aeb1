/- Walks: arguments.Check. -/
import Derived.Test.YtbickehhnkhabaaArg3b
import Derived.Deep.DeepCutAuto
import Derived.Deep.CutBlock
namespace Go.Proofs.Ytbickehhnkhabaa
open Go.RowKit

set_option maxRecDepth 100000 in
set_option maxHeartbeats 4000000 in
theorem Check_any (v : Value) (ps : List Par) (w : World) (hv : ParamsAt w v ps) :
    Calls Try.prog 12 #[v] w fun e w' => e = .returned (faultV (parF ps).1 (parF ps).2) ∧ Below w.heap.size w w' := by
  obtain ⟨a, cap, rfl, hl, hm, hc⟩ := id hv
  have HC := Lib.hid hc
  clear hc
  have hb0 := ext_alloc w (.cells #[.int .i64 0, .int .i64 0] 27)
  have hbx0 := heap_new w (.cells #[.int .i64 0, .int .i64 0] 27)
  have hs0 : w.heap.size < (w.alloc (.cells #[.int .i64 0, .int .i64 0] 27)).heap.size := by simp
  by_cases h12 : 12 < ps.length
  · have i1 : ((ps.length : Int) > 12) := by omega
    have hP := Lib.hid (parF_many h12)
    clear h12
    go_enter Try.func12, Try.ntmps12
    go_wp2_with (go_at_call 30; refine (afault_any _ _ _).mono ?_; rintro e w5 ⟨rfl, hb5⟩; simp only [faultV]; have hbx5 := (hb5.block w.heap.size hs0).trans hbx0; obtain ⟨p0, p1, p2, p3⟩ := box2 hbx5)
    obtain ⟨q0, q1, _, q3⟩ := box2 (box2_set hbx5 (.int .i64 2) (.int .i64 (-1)))
    refine bodyPost_ret (v := faultV 2 (-1)) (by simp [results, Try.results12, go_sem, q0, q1, faultV]) rfl ⟨by rw [hP.out], ?_⟩
    exact ((ext_trans hb0 hb5).setCell (Nat.le_refl _) _).setCell (Nat.le_refl _) _
  · have i1 : ¬ ((ps.length : Int) > 12) := by omega
    have H12 := Lib.hid h12
    have h12' : ps.length ≤ 12 := by omega
    clear h12
    go_enter Try.func12, Try.ntmps12
    go_wp2
    go_loopg [3, 4, 14] ps.length (fun q s3 s4 s14 wr => ∃ k : Nat, k ≤ ps.length ∧ ps.length - k ≤ q ∧ s14 = .int .i64 k ∧ s3 = .int .i64 (lastAt ps k) ∧ s4 = .bool (optAt ps k) ∧ Below (w.heap.size + 1) (w.alloc (.cells #[.int .i64 0, .int .i64 0] 27)) wr ∧ Hid (badP ps 0 = badP ps k) ∧ Hid (0 ≤ lastAt ps k))
    case atStart => exact ⟨0, Nat.zero_le _, by omega, rfl, rfl, rfl, Below.refl _ _, rfl, Int.le_refl 0⟩
    case round =>
      obtain ⟨k, hk, hq, rfl, rfl, rfl, hb, hbad, hla⟩ := hrel
      have hbw : Below w.heap.size w wr := hb0.trans (hb.mono (by omega))
      by_cases hlt : k < ps.length
      · obtain ⟨b, off, da, dc, rfl, z0, z1, z2⟩ := HC.out k hlt
        rw [← hbw.cell (p := ⟨b, off + k * 3, none⟩) (World.block_lt_of_cell? _ _ z0)] at z0
        rw [← hbw.cell (p := ⟨b, off + k * 3 + 1, none⟩) (World.block_lt_of_cell? _ _ z1)] at z1
        rw [← hbw.cell (p := ⟨b, off + k * 3 + 2, none⟩) (World.block_lt_of_cell? _ _ z2)] at z2
        have hbA := ext_alloc wr (.cells #[.int .i64 ps[k].k, .string ps[k].s, .slice da ps[k].n dc] 51)
        have hbxA := heap_new wr (.cells #[.int .i64 ps[k].k, .string ps[k].s, .slice da ps[k].n dc] 51)
        obtain ⟨u, hu, hsl⟩ := ParamsAt.take hv (k := k) (by omega)
        obtain ⟨au, cu, rfl⟩ := hu.len
        have hkl0 : (ps.take k).length = k := by rw [List.length_take]; omega
        rw [hkl0] at hu hsl
        clear hkl0
        have HU := Lib.hid hu
        clear hu
        go_upto_block 2 with fail
        have hbwA := ext_trans hbw hbA
        obtain ⟨x0, x1, x2, x3, x4⟩ := box3 hbxA
        have hN : wr.heap.size < (wr.alloc (.cells #[.int .i64 ps[k].k, .string ps[k].s, .slice da ps[k].n dc] 51)).heap.size := by simp
        generalize (wr.alloc (.cells #[.int .i64 ps[k].k, .string ps[k].s, .slice da ps[k].n dc] 51)) = wA at *
        go_cut [7] (fun s7 wx => s7 = .int .i64 (codeI ps k) ∧ Below wA.heap.size wA wx)
        case first =>
          clear hbad z0 z1 z2 hv
          have hcode := Lib.hid (codeI_at ps k hlt)
          unfold codeAt at hcode
          have HH := Lib.hid (fun (wx : World) (hbx : Below wA.heap.size wA wx) (y1 : wx.cell? ⟨wr.heap.size, 1, none⟩ = some (.string ps[k].s)) => ContainsFuncP_any _ _ _ wr.heap.size wx (HU.out.below (ext_trans hbwA hbx)) y1)
          have hname := isName_any ps[k].s
          have hkl : (((k : Int) + 1) == (ps.length : Int)) = decide (k + 1 = ps.length) := by rw [Bool.eq_iff_iff]; simp; omega
          generalize codeI ps k = cd at *
          generalize hasName (ps.take k) ps[k].s = hs at *
          generalize ps[k].k = pk at *
          generalize ps[k].n = pn at *
          generalize ps[k].s = nm at *
          generalize lastAt ps k = la at *
          generalize optAt ps k = ot at *
          go_upto_region 8 with fail
          go_cut [19] (fun c wx => ∃ c', c = .bool c' ∧ Hid (c' = true ↔ (pk < 0 ∨ 3 < pk)) ∧ wA = wx)
          case first =>
            go_wp2
            all_goals go_meet
            all_goals (refine ⟨_, rfl, ?_, rfl⟩)
            all_goals (unfold Hid; simp; try omega)
          case rest =>
            obtain ⟨c1, rfl, hc1, rfl⟩ := hcut
            cases c1 with
            | true =>
              have hcc : Hid (cd = 5) := by unfold Hid; rw [hcode.out, if_pos (hc1.out.mp rfl)]
              go_wp2
              go_meet
              exact ⟨by rw [hcc.out], Below.refl _ _⟩
            | false =>
              have hcode2 := Lib.hid (hcode.out.trans (if_neg (fun h => by have := hc1.out.mpr h; cases this)))
              clear hcode
              go_upto_region 10 with fail
              go_cut [28] (fun c wx => ∃ c', c = .bool c' ∧ Hid (c' = true ↔ (nameOk nm = false ∧ (pk ≠ 1 ∨ strE nm = false))) ∧ Below wA.heap.size wA wx)
              case first => as_aux_lemma =>
                have hn1 := hname wA
                generalize nameOk nm = no at *
                go_wp2_with (go_at_call 31; refine hn1.mono ?_; rintro e w5 ⟨rfl, hb5⟩; have hbx5 := (hb5.block wr.heap.size hN).trans hbxA; obtain ⟨y0, y1, y2, y3, y4⟩ := box3 hbx5)
                all_goals go_meet
                all_goals (refine ⟨_, rfl, ?_, hb5⟩)
                all_goals (unfold Hid strE)
                all_goals (first | (rename_i h1 h2; simp [h1, h2]; done) | (rename_i h1; simp [h1]))
              case rest =>
                obtain ⟨c2, rfl, hc2, hbx2⟩ := hcut
                cases c2 with
                | true => as_aux_lemma =>
                  have hcc : Hid (cd = 7) := by unfold Hid; rw [hcode2.out, if_pos (hc2.out.mp rfl)]
                  go_wp2
                  go_meet
                  exact ⟨by rw [hcc.out], hbx2⟩
                | false =>
                  have hcode3 := Lib.hid (hcode2.out.trans (if_neg (fun h => by have := hc2.out.mpr h; cases this)))
                  clear hcode2 hname
                  have hbx5 := (hbx2.block wr.heap.size hN).trans hbxA
                  obtain ⟨y0, y1, y2, y3, y4⟩ := box3 hbx5
                  go_upto_region 12 with fail
                  go_cut [43] (fun c wx => ∃ c', c = .bool c' ∧ Hid (c' = true ↔ (strE nm = false ∧ hs = true)) ∧ Below wA.heap.size wA wx)
                  case first => as_aux_lemma =>
                    have hcall := HH.out _ hbx2 y1
                    go_wp2_with (go_at_call 32; refine hcall.mono ?_; rintro e w6 ⟨rfl, hb6⟩)
                    all_goals go_meet
                    all_goals (refine ⟨_, rfl, ?_, by first | exact ext_trans hbx2 hb6 | exact hbx2⟩)
                    all_goals (unfold Hid strE; rename_i h1; simp [h1])
                  case rest =>
                    obtain ⟨c3, rfl, hc3, hbx3⟩ := hcut
                    cases c3 with
                    | true => as_aux_lemma =>
                      have hcc : Hid (cd = 8) := by unfold Hid; rw [hcode3.out, if_pos (hc3.out.mp rfl)]
                      go_wp2
                      go_meet
                      exact ⟨by rw [hcc.out], hbx3⟩
                    | false =>
                      have hcode4 := Lib.hid (hcode3.out.trans (if_neg (fun h => by have := hc3.out.mpr h; cases this)))
                      clear hcode3
                      clear hbx5 y0 y1 y2 y3 y4 hbx2 HH
                      have hbx5 := (hbx3.block wr.heap.size hN).trans hbxA
                      obtain ⟨y0, y1, y2, y3, y4⟩ := box3 hbx5
                      go_upto_region 14 with fail
                      go_cut [54] (fun c wx => ∃ c', c = .bool c' ∧ Hid (c' = true ↔ (1 < pn ∨ (0 < pn ∧ (pk = 1 ∨ pk = 3)))) ∧ wx.heap[wr.heap.size]? = some (.cells #[.int .i64 pk, .string nm, .slice da pn dc] 51) ∧ Below wA.heap.size wA wx)
                      case first => as_aux_lemma =>
                        go_wp2
                        all_goals go_meet
                        all_goals (refine ⟨_, rfl, ?_, hbx5, hbx3⟩)
                        all_goals (unfold Hid; simp; try omega)
                      case rest =>
                        obtain ⟨c4, rfl, hc4, hbx6, hbx7⟩ := hcut
                        cases c4 with
                        | true => as_aux_lemma =>
                          have hcc : Hid (cd = 6) := by unfold Hid; rw [hcode4.out, if_pos (hc4.out.mp rfl)]
                          go_wp2
                          go_meet
                          exact ⟨by rw [hcc.out], hbx7⟩
                        | false =>
                          have hcode5 := Lib.hid (hcode4.out.trans (if_neg (fun h => by have := hc4.out.mpr h; cases this)))
                          clear hcode4
                          clear hbx5 y0 y1 y2 y3 y4 hbx3
                          have hbx5 := hbx6
                          have hbx3 := hbx7
                          clear hbx6 hbx7
                          obtain ⟨y0, y1, y2, y3, y4⟩ := box3 hbx5
                          go_upto_region 16 with fail
                          go_cut [75] (fun c wx => ∃ c', c = .bool c' ∧ Hid (c' = true ↔ (pk < la ∨ (pk = la ∧ (la = 1 ∨ la = 3)) ∨ (pk = 2 ∧ la = 0))) ∧ wx.heap[wr.heap.size]? = some (.cells #[.int .i64 pk, .string nm, .slice da pn dc] 51) ∧ Below wA.heap.size wA wx)
                          case first => as_aux_lemma =>
                            by_cases hlt5 : pk < la
                            · go_wp2
                              go_meet
                              exact ⟨_, rfl, by unfold Hid; simp; try omega, hbx5, hbx3⟩
                            · by_cases hpl : pk = la
                              · subst hpl
                                by_cases v1 : pk = 1
                                · subst v1
                                  go_wp2
                                  go_meet
                                  exact ⟨_, rfl, by unfold Hid; simp; try omega, hbx5, hbx3⟩
                                · by_cases v3 : pk = 3
                                  · subst v3
                                    go_wp2
                                    go_meet
                                    exact ⟨_, rfl, by unfold Hid; simp; try omega, hbx5, hbx3⟩
                                  · by_cases v2 : pk = 2
                                    · subst v2
                                      go_wp2
                                      go_meet
                                      exact ⟨_, rfl, by unfold Hid; simp; try omega, hbx5, hbx3⟩
                                    · have b1 : (pk == 1) = false := by simpa using v1
                                      have b3 : (pk == 3) = false := by simpa using v3
                                      have b2 : (pk == 2) = false := by simpa using v2
                                      go_wp2
                                      go_meet
                                      exact ⟨_, rfl, by unfold Hid; simp; try omega, hbx5, hbx3⟩
                              · have hplb : (pk == la) = false := by simpa using hpl
                                by_cases v2 : pk = 2
                                · subst v2
                                  by_cases v0 : la = 0
                                  · subst v0
                                    go_wp2
                                    go_meet
                                    exact ⟨_, rfl, by unfold Hid; simp; try omega, hbx5, hbx3⟩
                                  · have b0 : (la == 0) = false := by simpa using v0
                                    go_wp2
                                    go_meet
                                    exact ⟨_, rfl, by unfold Hid; simp; try omega, hbx5, hbx3⟩
                                · have b2 : (pk == 2) = false := by simpa using v2
                                  go_wp2
                                  go_meet
                                  exact ⟨_, rfl, by unfold Hid; simp; try omega, hbx5, hbx3⟩
                          case rest =>
                            obtain ⟨c5, rfl, hc5, hbx6, hbx7⟩ := hcut
                            cases c5 with
                            | true => as_aux_lemma =>
                              have hcc : Hid (cd = 11) := by unfold Hid; rw [hcode5.out, if_pos (hc5.out.mp rfl)]
                              go_wp2
                              go_meet
                              exact ⟨by rw [hcc.out], hbx7⟩
                            | false =>
                              have hcode6 := Lib.hid (hcode5.out.trans (if_neg (fun h => by have := hc5.out.mpr h; cases this)))
                              clear hcode5
                              clear hbx5 y0 y1 y2 y3 y4 hbx3
                              have hbx5 := hbx6
                              have hbx3 := hbx7
                              clear hbx6 hbx7
                              obtain ⟨y0, y1, y2, y3, y4⟩ := box3 hbx5
                              go_upto_region 18 with fail
                              go_cut [103] (fun c wx => ∃ c', c = .bool c' ∧ Hid (c' = true ↔ (pk = 1 ∧ strE nm = true ∧ (k + 1 = ps.length ∨ nextK ps k ≠ 2))) ∧ wx.heap[wr.heap.size]? = some (.cells #[.int .i64 pk, .string nm, .slice da pn dc] 51) ∧ Below wA.heap.size wA wx)
                              case first => as_aux_lemma =>
                                by_cases v1 : pk = 1
                                · subst v1
                                  cases hE : nm.toList.isEmpty with
                                  | false =>
                                    go_wp2
                                    go_meet
                                    exact ⟨_, rfl, by unfold Hid strE; simp [hE], hbx5, hbx3⟩
                                  | true =>
                                    by_cases hlt2 : k + 1 < ps.length
                                    · obtain ⟨b2, off2, da2, dc2, he2, n0, -⟩ := HC.out (k + 1) hlt2
                                      simp only [Option.some.injEq, Addr.mk.injEq, and_true] at he2
                                      obtain ⟨rfl, rfl⟩ := he2
                                      have n1 := (hbw.cell (p := ⟨b, off + (k + 1) * 3, none⟩) (World.block_lt_of_cell? _ _ n0)).trans n0
                                      have n2 := (hbA.cell (p := ⟨b, off + (k + 1) * 3, none⟩) (World.block_lt_of_cell? _ _ n1)).trans n1
                                      have n3 := (hbx3.cell (p := ⟨b, off + (k + 1) * 3, none⟩) (World.block_lt_of_cell? _ _ n2)).trans n2
                                      have hnk := Lib.hid (show nextK ps k = ps[k + 1].k by unfold nextK; simp [List.getD, hlt2])
                                      have hkne : ¬ (k + 1 = ps.length) := by omega
                                      generalize ps[k + 1].k = nk at *
                                      clear n0 n1 n2
                                      by_cases v2 : nk = 2
                                      · subst v2
                                        go_wp2
                                        go_meet
                                        exact ⟨_, rfl, by unfold Hid strE; rw [hnk.out]; simp [hkne], hbx5, hbx3⟩
                                      · have b2 : (nk != 2) = true := by simpa using v2
                                        go_wp2
                                        go_meet
                                        exact ⟨_, rfl, by unfold Hid strE; rw [hnk.out]; simp [v2, hE], hbx5, hbx3⟩
                                    · have hke : k + 1 = ps.length := by omega
                                      go_wp2
                                      go_meet
                                      exact ⟨_, rfl, by unfold Hid strE; simp [hke, hE], hbx5, hbx3⟩
                                · have b1 : (pk == 1) = false := by simpa using v1
                                  go_wp2
                                  go_meet
                                  exact ⟨_, rfl, by unfold Hid strE; simp [v1], hbx5, hbx3⟩
                              case rest =>
                                obtain ⟨c6, rfl, hc6, hbx6, hbx7⟩ := hcut
                                cases c6 with
                                | true => as_aux_lemma =>
                                  have hcc : Hid (cd = 11) := by unfold Hid; rw [hcode6.out, if_pos (hc6.out.mp rfl)]
                                  go_wp2
                                  go_meet
                                  exact ⟨by rw [hcc.out], hbx7⟩
                                | false =>
                                  have hcode7 := Lib.hid (hcode6.out.trans (if_neg (fun h => by have := hc6.out.mpr h; cases this)))
                                  clear hcode6
                                  clear hbx5 y0 y1 y2 y3 y4 hbx3
                                  have hbx5 := hbx6
                                  have hbx3 := hbx7
                                  clear hbx6 hbx7
                                  obtain ⟨y0, y1, y2, y3, y4⟩ := box3 hbx5
                                  go_upto_region 20 with fail
                                  go_cut [128] (fun c wx => ∃ c', c = .bool c' ∧ Hid (c' = true ↔ (pk = 0 ∧ ot = true ∧ pn = 0)) ∧ wx.heap[wr.heap.size]? = some (.cells #[.int .i64 pk, .string nm, .slice da pn dc] 51) ∧ Below wA.heap.size wA wx)
                                  case first => as_aux_lemma =>
                                    by_cases v0 : pk = 0
                                    · subst v0
                                      cases ot with
                                      | false =>
                                        go_wp2
                                        go_meet
                                        exact ⟨_, rfl, by unfold Hid; simp, hbx5, hbx3⟩
                                      | true =>
                                        by_cases n0 : pn = 0
                                        · subst n0
                                          go_wp2
                                          go_meet
                                          exact ⟨_, rfl, by unfold Hid; simp, hbx5, hbx3⟩
                                        · have b0 : ((pn : Int) == 0) = false := by rw [beq_eq_false_iff_ne]; omega
                                          go_wp2
                                          go_meet
                                          exact ⟨_, rfl, by unfold Hid; simp [n0], hbx5, hbx3⟩
                                    · have b0 : (pk == 0) = false := by simpa using v0
                                      go_wp2
                                      go_meet
                                      exact ⟨_, rfl, by unfold Hid; simp [v0], hbx5, hbx3⟩
                                  case rest =>
                                    obtain ⟨c7, rfl, hc7, hbx6, hbx7⟩ := hcut
                                    cases c7 with
                                    | true => as_aux_lemma =>
                                      have hcc : Hid (cd = 11) := by unfold Hid; rw [hcode7.out, if_pos (hc7.out.mp rfl)]
                                      go_wp2
                                      go_meet
                                      exact ⟨by rw [hcc.out], hbx7⟩
                                    | false =>
                                      have hcode8 := Lib.hid (hcode7.out.trans (if_neg (fun h => by have := hc7.out.mpr h; cases this)))
                                      clear hcode7
                                      go_wp2
                                      go_meet
                                      exact ⟨by rw [hcode8.out], hbx7⟩
        case rest =>
          obtain ⟨rfl, hbx⟩ := hcut
          have hbx5 := (hbx.block wr.heap.size hN).trans hbxA
          obtain ⟨y0, y1, y2, y3, y4⟩ := box3 hbx5
          have hbwx := ext_trans hbwA hbx
          have hwb : Below (w.heap.size + 1) (w.alloc (.cells #[.int .i64 0, .int .i64 0] 27)) wc := hb.trans ((ext_trans hbA hbx).mono (by have := hb.size; simp at this; omega))
          clear z0 z1 z2 hv x0 x1 x2 x3 hbxA hbx
          by_cases hc0 : codeI ps k = 0
          · have hcb : (codeI ps k != 0) = false := by simpa using hc0
            have hg := kind_of_good hlt hc0
            have hB := Lib.hid (hbad.out.trans (badP_no hlt hc0))
            have hL := Lib.hid (lastAt_succ ps k hlt)
            have hO := Lib.hid (optAt_succ ps k hlt)
            clear hbad HC hsl HU
            rw [hc0] at hcb ⊢
            generalize ps[k].k = pk at *
            generalize ps[k].n = pn at *
            generalize ps[k].s = nm at *
            generalize optAt ps k = ot at *
            by_cases hn0 : 0 < pn
            · have hnb : decide (0 < pn) = true := by simpa using hn0
              cases ot with
              | true =>
                go_wp2
                go_roundg (ps.length - (k + 1))
                case measure => omega
                case rel => exact ⟨k + 1, by omega, by omega, by go_num, by rw [hL.out], by rw [hO.out]; simp [hn0], hwb, hB, by unfold Hid; rw [hL.out]; exact hg.1⟩
              | false =>
                go_wp2
                go_roundg (ps.length - (k + 1))
                case measure => omega
                case rel => exact ⟨k + 1, by omega, by omega, by go_num, by rw [hL.out], by rw [hO.out]; simp [hn0], hwb, hB, by unfold Hid; rw [hL.out]; exact hg.1⟩
            · have hnb : decide (0 < pn) = false := by simpa using hn0
              cases ot with
              | true =>
                go_wp2
                go_roundg (ps.length - (k + 1))
                case measure => omega
                case rel => exact ⟨k + 1, by omega, by omega, by go_num, by rw [hL.out], by rw [hO.out]; simp [hn0], hwb, hB, by unfold Hid; rw [hL.out]; exact hg.1⟩
              | false =>
                go_wp2
                go_roundg (ps.length - (k + 1))
                case measure => omega
                case rel => exact ⟨k + 1, by omega, by omega, by go_num, by rw [hL.out], by rw [hO.out]; simp [hn0], hwb, hB, by unfold Hid; rw [hL.out]; exact hg.1⟩
          · have hcb : (codeI ps k != 0) = true := by simpa using hc0
            have hP := Lib.hid (parF_bad (ps := ps) (k := k) H12.out (hbad.out.trans (badP_yes hlt hc0)))
            clear hbad HC hsl HU
            have hbox := (hwb.block w.heap.size (Nat.lt_succ_self _)).trans hbx0
            obtain ⟨q0, q1, q2, q3⟩ := box2 hbox
            go_wp2_with (go_at_call 30; refine (afault_any _ _ _).mono ?_; rintro e w5 ⟨rfl, hb5⟩; simp only [faultV]; have hbx6 := (hb5.block w.heap.size q3).trans hbox; obtain ⟨p0, p1, p2, p3⟩ := box2 hbx6)
            obtain ⟨r0, r1, _, r3⟩ := box2 (box2_set hbx6 (.int .i64 (codeI ps k)) (.int .i64 k))
            refine bodyPost_ret (v := faultV (codeI ps k) k) (by simp [results, Try.results12, go_sem, r0, r1, faultV]) rfl ⟨by rw [hP.out], ?_⟩
            exact (((hb0.trans (hwb.mono (by omega))).trans (hb5.mono (by have := q3; omega))).setCell (Nat.le_refl _) _).setCell (Nat.le_refl _) _
      · have hP := Lib.hid (parF_good (ps := ps) H12.out (hbad.out.trans (badP_end hlt)))
        have hbox := (hb.block w.heap.size (Nat.lt_succ_self _)).trans hbx0
        obtain ⟨q0, q1, q2, q3⟩ := box2 hbox
        clear HC hv
        go_wp2
        obtain ⟨r0, r1, _, r3⟩ := box2 (box2_set hbox (.int .i64 0) (.int .i64 0))
        refine bodyPost_ret (v := faultV 0 0) (by simp [results, Try.results12, go_sem, r0, r1, faultV]) rfl ⟨by rw [hP.out], ?_⟩
        exact ((hb0.trans (hb.mono (by omega))).setCell (Nat.le_refl _) _).setCell (Nat.le_refl _) _
end Go.Proofs.Ytbickehhnkhabaa
