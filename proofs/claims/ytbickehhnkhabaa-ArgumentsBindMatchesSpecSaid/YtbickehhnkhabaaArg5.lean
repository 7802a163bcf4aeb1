/- Walk: the document's ParamsFault. -/
import Derived.Test.YtbickehhnkhabaaArg3b
import Derived.Deep.DeepCutAuto
import Derived.Deep.CutBlock
import Derived.Deep.QuietTactic
namespace Go.Proofs.Ytbickehhnkhabaa
open Go.RowKit

theorem below_box_le {w wr : World} {o : Obj} (h : Below (w.heap.size + 1) (w.alloc o) wr) : w.heap.size + 1 ≤ wr.heap.size := by have := h.size; simp at this; omega
theorem ni_gt {n : Nat} (h : 1 < n) : ((n : Int) > 1) := by omega
theorem ni_ngt {n : Nat} (h : ¬ 1 < n) : ¬ ((n : Int) > 1) := by omega
theorem ni_lt {k n : Nat} (h : k + 1 < n) : ((k : Int) + 1 < (n : Int)) := by omega
theorem ni_nlt {k n : Nat} (h : ¬ k + 1 < n) : ¬ ((k : Int) + 1 < (n : Int)) := by omega
theorem ni_zero {n : Nat} (h1 : ¬ n = 1) (h2 : ¬ 1 < n) : n = 0 := by omega
theorem ni_eq0 {n : Nat} (h : ¬ n = 0) : ((n : Int) == 0) = false := by rw [beq_eq_false_iff_ne]; omega
theorem ni_eq1 {n : Nat} (h : ¬ n = 1) : ((n : Int) == 1) = false := by rw [beq_eq_false_iff_ne]; omega
theorem bne_true_of_ne {a b : Int} (h : ¬ a = b) : (a != b) = true := by simpa using h
theorem fo_not {P : Prop} (h : false = true ↔ P) : ¬ P := fun p => Bool.noConfusion (h.2 p)

set_option linter.unusedSimpArgs false in
set_option maxRecDepth 100000 in
set_option maxHeartbeats 8000000 in
theorem ParamsFault_any (v : Value) (ps : List Par) (w : World) (hv : ParamsAt w v ps) (hsz : ∀ p ∈ ps, p.s.size ≤ 9223372036854775807) :
    Calls Try.prog 13 #[v] w fun e w' => e = .returned (faultV (parF ps).1 (parF ps).2) ∧ Below w.heap.size w w' := by
  obtain ⟨a, cap, rfl, hl, hm, hc⟩ := id hv
  have HC := Lib.hid hc
  have HSZ := Lib.hid hsz
  clear hc hsz
  have hb0 := ext_alloc w (.cells #[.int .i64 0, .int .i64 0] 27)
  have hbx0 := heap_new w (.cells #[.int .i64 0, .int .i64 0] 27)
  have hs0 : w.heap.size < (w.alloc (.cells #[.int .i64 0, .int .i64 0] 27)).heap.size := by simp
  by_cases h12 : 12 < ps.length
  · have i1 : ((ps.length : Int) > 12) := by omega
    have hP := Lib.hid (parF_many h12)
    clear h12
    go_enter Try.func13, Try.ntmps13
    go_wp2_with (go_at_call 34; refine (At_any _ _ _).mono ?_; rintro e w5 ⟨rfl, hb5⟩; simp only [faultV]; have hbx5 := (hb5.block w.heap.size hs0).trans hbx0; obtain ⟨p0, p1, p2, p3⟩ := box2 hbx5)
    obtain ⟨q0, q1, _, q3⟩ := box2 (box2_set hbx5 (.int .i64 2) (.int .i64 (-1)))
    refine bodyPost_ret (v := faultV 2 (-1)) (by simp [results, Try.results13, go_sem, q0, q1, faultV]) rfl ⟨by rw [hP.out], ?_⟩
    exact ((ext_trans hb0 hb5).setCell (Nat.le_refl _) _).setCell (Nat.le_refl _) _
  · have i1 : ¬ ((ps.length : Int) > 12) := by omega
    have H12 := Lib.hid h12
    have h12' : ps.length ≤ 12 := by omega
    clear h12
    go_enter Try.func13, Try.ntmps13
    go_wp2
    go_loopg [20] ps.length (fun q s20 wr => ∃ k : Nat, k ≤ ps.length ∧ ps.length - k ≤ q ∧ s20 = .int .i64 k ∧ Below (w.heap.size + 1) (w.alloc (.cells #[.int .i64 0, .int .i64 0] 27)) wr ∧ Hid (badP ps 0 = badP ps k) ∧ Hid (0 ≤ lastAt ps k))
    case atStart => exact ⟨0, Nat.zero_le _, by omega, rfl, Below.refl _ _, rfl, Int.le_refl 0⟩
    case round =>
      obtain ⟨k, hk, hq, rfl, hb, hbad, hla⟩ := hrel
      have hbw : Below w.heap.size w wr := hb0.trans (hb.mono (by omega))
      by_cases hlt : k < ps.length
      · obtain ⟨b, off, da, dc, rfl, z0, z1, z2⟩ := HC.out k hlt
        rw [← hbw.cell (p := ⟨b, off + k * 3, none⟩) (World.block_lt_of_cell? _ _ z0)] at z0
        rw [← hbw.cell (p := ⟨b, off + k * 3 + 1, none⟩) (World.block_lt_of_cell? _ _ z1)] at z1
        rw [← hbw.cell (p := ⟨b, off + k * 3 + 2, none⟩) (World.block_lt_of_cell? _ _ z2)] at z2
        have hbA := ext_alloc wr (.cells #[.int .i64 ps[k].k, .string ps[k].s, .slice da ps[k].n dc] 51)
        have hbxA := heap_new wr (.cells #[.int .i64 ps[k].k, .string ps[k].s, .slice da ps[k].n dc] 51)
        have hnsz := HSZ.out ps[k] (List.getElem_mem hlt)
        obtain ⟨u, hu, hsl⟩ := ParamsAt.take hv (k := k) (by omega)
        obtain ⟨au, cu, rfl⟩ := hu.len
        have hkl0 : (ps.take k).length = k := by rw [List.length_take]; omega
        rw [hkl0] at hu hsl
        have HU := Lib.hid hu
        have HK0 := Lib.hid hkl0
        clear hu hkl0
        have HT : ∀ j (h : j < k), (ps.take k)[j]? = some (ps[j]'(by omega)) := fun j h => by rw [List.getElem?_take_of_lt h, List.getElem?_eq_getElem]
        have HTT := Lib.hid HT
        clear HT
        go_upto_block 2 with fail
        have hbwA := ext_trans hbw hbA
        obtain ⟨x0, x1, x2, x3, x4⟩ := box3 hbxA
        have hN : wr.heap.size < (wr.alloc (.cells #[.int .i64 ps[k].k, .string ps[k].s, .slice da ps[k].n dc] 51)).heap.size := by simp
        generalize (wr.alloc (.cells #[.int .i64 ps[k].k, .string ps[k].s, .slice da ps[k].n dc] 51)) = wA at *
        have hcode := Lib.hid ((codeI_at ps k hlt).trans (ref_eq ps k ps[k] (if k = 0 then -1 else lastAt ps k) (lastAt ps k) (optAt ps k) hlt (by
          by_cases h0 : k = 0
          · subst h0; exact .inl ⟨rfl, rfl, rfl⟩
          · exact .inr ⟨hla.out, by rw [if_neg h0]⟩)).symm)
        have hgood := Lib.hid (fun h => kind_of_good hlt (i := k) h)
        have hyes := Lib.hid (fun h => parF_bad (ps := ps) (k := k) H12.out (hbad.out.trans (badP_yes hlt h)))
        have hno := Lib.hid (fun h => hbad.out.trans (badP_no hlt h))
        have hlas := Lib.hid (lastAt_succ ps k hlt)
        clear hbad z0 z1 z2 hv
        unfold refAt at hcode
        go_cut [5, 6] (fun s5 s6 wx => s5 = .bool (hasName (ps.take k) ps[k].s && !strE ps[k].s) ∧ s6 = .bool (optAt ps k) ∧ Below wA.heap.size wA wx)
        case first =>
          clear hcode hgood hyes hno hlas
          generalize ps[k].s = nm at *
          generalize ps[k].k = pk at *
          generalize ps[k].n = pn at *
          obtain ⟨wo, hwo⟩ : ∃ wo, wo = wr := ⟨_, rfl⟩
          subst hwo
          go_wp2
          go_loopg [5, 6, 29] k (fun q s5 s6 s29 wx => ∃ j : Nat, j ≤ k ∧ k - j ≤ q ∧ s29 = .int .i64 j ∧ s5 = .bool (hasName (ps.take j) nm && !strE nm) ∧ s6 = .bool (optAt ps j) ∧ Below wA.heap.size wA wx)
          case atStart => exact ⟨0, Nat.zero_le _, by omega, rfl, by simp [hasName], by simp [optAt], Below.refl _ _⟩
          case round =>
            obtain ⟨j, hj, hq2, rfl, rfl, rfl, hbi⟩ := hrel
            by_cases hlt2 : j < k
            · obtain ⟨a2, cap2, he2, hl2, hm2, hc2⟩ := HU.out
              have hjl : j < (ps.take k).length := by rw [HK0.out]; exact hlt2
              obtain ⟨b2, off2, da2, dc2, rfl, n0, n1, n2⟩ := hc2 j hjl
              have he3 := congrArg (fun v => match v with | .slice a _ _ => a | _ => none) he2
              simp only at he3
              subst he3
              have hge : (ps.take k)[j] = ps[j]'(by omega) := by have := HTT.out j hlt2; rw [List.getElem?_eq_getElem hjl] at this; exact Option.some.inj this
              rw [hge] at n0 n1 n2
              have hbwi := ext_trans hbwA hbi
              rw [← hbwi.cell (p := ⟨b2, off2 + j * 3, none⟩) (World.block_lt_of_cell? _ _ n0)] at n0
              rw [← hbwi.cell (p := ⟨b2, off2 + j * 3 + 1, none⟩) (World.block_lt_of_cell? _ _ n1)] at n1
              rw [← hbwi.cell (p := ⟨b2, off2 + j * 3 + 2, none⟩) (World.block_lt_of_cell? _ _ n2)] at n2
              have hN1 := Lib.hid (hasName_succ ps nm j (by omega))
              have hO1 := Lib.hid (optAt_succ ps j (by omega))
              clear hc2 he2 hge
              have hbxi := (hbi.block wo.heap.size hN).trans hbxA
              have hbB := ext_alloc wr (.cells #[.int .i64 ps[j].k, .string ps[j].s, .slice da2 ps[j].n dc2] 51)
              have hbxq := heap_new wr (.cells #[.int .i64 ps[j].k, .string ps[j].s, .slice da2 ps[j].n dc2] 51)
              have hbxB := (hbB.block wo.heap.size (Nat.lt_of_lt_of_le hN hbi.size)).trans hbxi
              go_upto_region 10 with fail
              have hbAB := ext_trans hbi hbB
              generalize ps[j].k = qk at *
              generalize ps[j].n = qn at *
              generalize ps[j].s = qs at *
              generalize (wr.alloc (.cells #[.int .i64 qk, .string qs, .slice da2 qn dc2] 51)) = wB at *
              obtain ⟨y0, y1, y2, y3, y4⟩ := box3 hbxB
              obtain ⟨t0, t1, t2, t3, t4⟩ := box3 hbxq
              clear n0 n1 n2 hbi hbwi hbxi hbB
              have hN2 : Hid ((hasName (ps.take (j + 1)) nm && !strE nm) = ((hasName (ps.take j) nm && !strE nm) || ((qs.toList == nm.toList) && !strE nm))) := by unfold Hid; rw [hN1.out]; cases strE nm <;> simp
              go_cut [5] (fun s wx => s = .bool (hasName (ps.take (j + 1)) nm && !strE nm) ∧ wB = wx)
              case first =>
                generalize (hasName (ps.take j) nm && !strE nm) = b5 at *
                cases b5 with
                | true =>
                  go_wp2
                  go_meet
                  exact ⟨by rw [hN2.out]; simp, rfl⟩
                | false =>
                  cases hqe : (qs.toList == nm.toList) with
                  | false =>
                    go_wp2
                    go_meet
                    exact ⟨by rw [hN2.out, hqe]; simp, rfl⟩
                  | true =>
                    go_wp2
                    go_meet
                    exact ⟨by rw [hN2.out, hqe]; simp [strE], rfl⟩
              case rest =>
                obtain ⟨rfl, rfl⟩ := hcut
                clear hN2 hN1
                go_upto_region 11 with fail
                generalize optAt ps j = b6 at *
                cases b6 with
                | true =>
                  go_wp2
                  go_roundg (k - (j + 1))
                  case measure => omega
                  case rel => exact ⟨j + 1, by omega, by omega, by go_num, rfl, by rw [hO1.out]; simp, hbAB⟩
                | false =>
                  go_wp2
                  go_roundg (k - (j + 1))
                  case measure => omega
                  case rel => exact ⟨j + 1, by omega, by omega, by go_num, rfl, by rw [hO1.out]; simp, hbAB⟩
            · obtain rfl : j = k := by omega
              go_wp2
              go_meet
              exact ⟨rfl, rfl, hbi⟩
        case rest =>
          obtain ⟨rfl, rfl, hbx3⟩ := hcut
          have hbx5 := (hbx3.block wr.heap.size hN).trans hbxA
          generalize ps[k].k = pk at *
          generalize ps[k].n = pn at *
          generalize ps[k].s = nm at *
          generalize (hasName (ps.take k) nm && !strE nm) = tw at *
          generalize optAt ps k = ot at *
          generalize codeI ps k = cd at *
          obtain ⟨bf, hbf⟩ : ∃ bf, bf = (if k = 0 then (-1 : Int) else lastAt ps k) := ⟨_, rfl⟩
          rw [← hbf] at hcode
          have hbe := Lib.hid hbf
          clear hbf
          clear hbxA x0 x1 x2 x3 x4
          obtain ⟨y0, y1, y2, y3, y4⟩ := box3 hbx5
          go_upto_if 55 with fail
          go_cut [9] (fun s9 wx => s9 = .int .i64 bf ∧ wx.heap[wr.heap.size]? = some (.cells #[.int .i64 pk, .string nm, .slice da pn dc] 51) ∧ Below wA.heap.size wA wx)
          case first =>
            by_cases h0 : k = 0
            · subst h0
              go_wp2
              go_meet
              exact ⟨by rw [hbe.out]; rfl, hbx5, hbx3⟩
            · obtain ⟨m, rfl⟩ : ∃ m, k = m + 1 := ⟨k - 1, by omega⟩
              obtain ⟨b2, off2, da2, dc2, he2, n0, -⟩ := HC.out m (by omega)
              simp only [Option.some.injEq, Addr.mk.injEq, and_true] at he2
              obtain ⟨rfl, rfl⟩ := he2
              have n1 := (hbw.cell (p := ⟨b, off + m * 3, none⟩) (World.block_lt_of_cell? _ _ n0)).trans n0
              have n2 := (hbA.cell (p := ⟨b, off + m * 3, none⟩) (World.block_lt_of_cell? _ _ n1)).trans n1
              have n3 := (hbx3.cell (p := ⟨b, off + m * 3, none⟩) (World.block_lt_of_cell? _ _ n2)).trans n2
              have hnk := Lib.hid (lastAt_succ ps m (by omega))
              generalize ps[m].k = nk at *
              clear n0 n1 n2
              go_wp2
              go_meet
              exact ⟨by rw [hbe.out, if_neg h0, hnk.out], hbx5, hbx3⟩
          case rest =>
            obtain ⟨rfl, hbx6, hbx7⟩ := hcut
            clear hbe
            clear hbx5 hbx3 y0 y1 y2 y3 y4
            have hbx5 := hbx6
            have hbx3 := hbx7
            clear hbx6 hbx7
            obtain ⟨y0, y1, y2, y3, y4⟩ := box3 hbx5
            by_cases v0 : pk = 0
            · as_aux_lemma =>
                subst v0
                go_wp2
                go_quiet (fail)
                have hbx7 := below_drewN hbx3 nq
                go_upto_region 18 with fail
                go_cut [13] (fun s13 wx => (∃ c', s13 = .bool c' ∧ Hid (c' = true ↔ (k + 1 < ps.length ∧ nextK ps k = 2))) ∧ wx.heap[wr.heap.size]? = some (.cells #[.int .i64 (0), .string nm, .slice da pn dc] 51) ∧ Below wA.heap.size wA wx)
                case first =>
                  by_cases hlt2 : k + 1 < ps.length
                  · obtain ⟨b2, off2, da2, dc2, he2, n0, -⟩ := HC.out (k + 1) hlt2
                    simp only [Option.some.injEq, Addr.mk.injEq, and_true] at he2
                    obtain ⟨rfl, rfl⟩ := he2
                    have n1 := (hbw.cell (p := ⟨b, off + (k + 1) * 3, none⟩) (World.block_lt_of_cell? _ _ n0)).trans n0
                    have n2 := (hbA.cell (p := ⟨b, off + (k + 1) * 3, none⟩) (World.block_lt_of_cell? _ _ n1)).trans n1
                    have n3 := (hbx3.cell (p := ⟨b, off + (k + 1) * 3, none⟩) (World.block_lt_of_cell? _ _ n2)).trans n2
                    have hnk := Lib.hid (show nextK ps k = ps[k + 1].k by unfold nextK; simp [List.getD, hlt2])
                    have hlti : ((k : Int) + 1 < (ps.length : Int)) := ni_lt hlt2
                    generalize ps[k + 1].k = nk at *
                    clear n0 n1 n2
                    go_wp2
                    go_meet
                    exact ⟨⟨_, rfl, by unfold Hid; rw [hnk.out]; simp [hlt2]⟩, hbx5, hbx7⟩
                  · have hlti : ¬ ((k : Int) + 1 < (ps.length : Int)) := ni_nlt hlt2
                    go_wp2
                    go_meet
                    exact ⟨⟨_, rfl, by unfold Hid; simp [hlt2]⟩, hbx5, hbx7⟩
                case rest =>
                  obtain ⟨⟨fo, rfl, hfo⟩, hbx8, hbx9⟩ := hcut
                  clear hbx5 hbx3 y0 y1 y2 y3 y4 hbx7
                  have hbx5 := hbx8
                  have hbx3 := hbx9
                  clear hbx8 hbx9
                  obtain ⟨y0, y1, y2, y3, y4⟩ := box3 hbx5
                  have hwb := hb.trans ((ext_trans hbA hbx3).mono (B' := w.heap.size + 1) (below_box_le hb))
                  have hbox := (hwb.block w.heap.size (Nat.lt_succ_self _)).trans hbx0
                  obtain ⟨g0, g1, g2, g3⟩ := box2 hbox
                  have hcall := NameOk_any nm
                  go_upto_region 21 with fail
                  generalize nameOk nm = no at *
                  go_wp2_with fail
                  refine (hcall _ hnsz).mono ?_
                  rintro e wz ⟨rfl, rfl⟩
                  clear hcall
                  cases no with
                  | true =>
                    cases tw with
                    | true =>
                      have hcc : Hid (cd = 8) := by unfold Hid; rw [hcode.out]; simp
                      have hP := Lib.hid (hyes.out (by rw [hcc.out]; decide))
                      clear hyes hno hgood hcode
                      go_wp2_with fail
                      refine (At_any _ _ _).mono ?_
                      rintro e w5 ⟨rfl, hb5⟩
                      simp only [faultV]
                      have hbx8 := (hb5.block w.heap.size g3).trans hbox
                      obtain ⟨p0, p1, p2, p3⟩ := box2 hbx8
                      go_wp2
                      obtain ⟨r0, r1, _, r3⟩ := box2 (box2_set hbx8 (.int .i64 8) (.int .i64 k))
                      refine bodyPost_ret (v := faultV 8 k) (by simp [results, Try.results13, go_sem, r0, r1, faultV]) rfl ⟨by rw [hP.out, hcc.out], ?_⟩
                      exact (((hb0.trans (hwb.mono (Nat.le_succ _))).trans (hb5.mono (Nat.le_of_lt g3))).setCell (Nat.le_refl _) _).setCell (Nat.le_refl _) _
                    | false =>
                      by_cases p2 : 1 < pn
                      · have p2i : ((pn : Int) > 1) := ni_gt p2
                        have hcc : Hid (cd = 6) := by unfold Hid; rw [hcode.out]; simp [p2]
                        have hP := Lib.hid (hyes.out (by rw [hcc.out]; decide))
                        clear hyes hno hgood hcode
                        go_wp2_with fail
                        refine (At_any _ _ _).mono ?_
                        rintro e w5 ⟨rfl, hb5⟩
                        simp only [faultV]
                        have hbx8 := (hb5.block w.heap.size g3).trans hbox
                        obtain ⟨p0, p1, p2, p3⟩ := box2 hbx8
                        go_wp2
                        obtain ⟨r0, r1, _, r3⟩ := box2 (box2_set hbx8 (.int .i64 6) (.int .i64 k))
                        refine bodyPost_ret (v := faultV 6 k) (by simp [results, Try.results13, go_sem, r0, r1, faultV]) rfl ⟨by rw [hP.out, hcc.out], ?_⟩
                        exact (((hb0.trans (hwb.mono (Nat.le_succ _))).trans (hb5.mono (Nat.le_of_lt g3))).setCell (Nat.le_refl _) _).setCell (Nat.le_refl _) _
                      · have p2i : ¬ ((pn : Int) > 1) := ni_ngt p2
                        by_cases p1 : pn = 1
                        · subst p1
                          by_cases v27 : 0 < bf
                          · have hcc : Hid (cd = 11) := by unfold Hid; rw [hcode.out]; simp [v27]
                            have hP := Lib.hid (hyes.out (by rw [hcc.out]; decide))
                            clear hyes hno hgood hcode
                            go_wp2_with fail
                            refine (At_any _ _ _).mono ?_
                            rintro e w5 ⟨rfl, hb5⟩
                            simp only [faultV]
                            have hbx8 := (hb5.block w.heap.size g3).trans hbox
                            obtain ⟨p0, p1, p2, p3⟩ := box2 hbx8
                            go_wp2
                            obtain ⟨r0, r1, _, r3⟩ := box2 (box2_set hbx8 (.int .i64 11) (.int .i64 k))
                            refine bodyPost_ret (v := faultV 11 k) (by simp [results, Try.results13, go_sem, r0, r1, faultV]) rfl ⟨by rw [hP.out, hcc.out], ?_⟩
                            exact (((hb0.trans (hwb.mono (Nat.le_succ _))).trans (hb5.mono (Nat.le_of_lt g3))).setCell (Nat.le_refl _) _).setCell (Nat.le_refl _) _
                          · cases ot with
                            | true =>
                              have hcc : Hid (cd = 0) := by unfold Hid; rw [hcode.out]; simp [v27]
                              have hB := Lib.hid (hno.out hcc.out)
                              have HG := Lib.hid (hgood.out hcc.out)
                              clear hyes hno hgood hcode
                              go_wp2
                              go_roundg (ps.length - (k + 1))
                              case measure => omega
                              case rel => exact ⟨k + 1, by omega, by omega, by go_num, hwb, hB, by unfold Hid; rw [hlas.out]; exact HG.out.1⟩
                            | false =>
                              have hcc : Hid (cd = 0) := by unfold Hid; rw [hcode.out]; simp [v27]
                              have hB := Lib.hid (hno.out hcc.out)
                              have HG := Lib.hid (hgood.out hcc.out)
                              clear hyes hno hgood hcode
                              go_wp2
                              go_roundg (ps.length - (k + 1))
                              case measure => omega
                              case rel => exact ⟨k + 1, by omega, by omega, by go_num, hwb, hB, by unfold Hid; rw [hlas.out]; exact HG.out.1⟩
                        · obtain rfl : pn = 0 := ni_zero p1 p2
                          by_cases v27 : 0 < bf
                          · have hcc : Hid (cd = 11) := by unfold Hid; rw [hcode.out]; simp [v27]
                            have hP := Lib.hid (hyes.out (by rw [hcc.out]; decide))
                            clear hyes hno hgood hcode
                            go_wp2_with fail
                            refine (At_any _ _ _).mono ?_
                            rintro e w5 ⟨rfl, hb5⟩
                            simp only [faultV]
                            have hbx8 := (hb5.block w.heap.size g3).trans hbox
                            obtain ⟨p0, p1, p2, p3⟩ := box2 hbx8
                            go_wp2
                            obtain ⟨r0, r1, _, r3⟩ := box2 (box2_set hbx8 (.int .i64 11) (.int .i64 k))
                            refine bodyPost_ret (v := faultV 11 k) (by simp [results, Try.results13, go_sem, r0, r1, faultV]) rfl ⟨by rw [hP.out, hcc.out], ?_⟩
                            exact (((hb0.trans (hwb.mono (Nat.le_succ _))).trans (hb5.mono (Nat.le_of_lt g3))).setCell (Nat.le_refl _) _).setCell (Nat.le_refl _) _
                          · cases ot with
                            | true =>
                              have hcc : Hid (cd = 11) := by unfold Hid; rw [hcode.out]; simp [v27]
                              have hP := Lib.hid (hyes.out (by rw [hcc.out]; decide))
                              clear hyes hno hgood hcode
                              go_wp2_with fail
                              refine (At_any _ _ _).mono ?_
                              rintro e w5 ⟨rfl, hb5⟩
                              simp only [faultV]
                              have hbx8 := (hb5.block w.heap.size g3).trans hbox
                              obtain ⟨p0, p1, p2, p3⟩ := box2 hbx8
                              go_wp2
                              obtain ⟨r0, r1, _, r3⟩ := box2 (box2_set hbx8 (.int .i64 11) (.int .i64 k))
                              refine bodyPost_ret (v := faultV 11 k) (by simp [results, Try.results13, go_sem, r0, r1, faultV]) rfl ⟨by rw [hP.out, hcc.out], ?_⟩
                              exact (((hb0.trans (hwb.mono (Nat.le_succ _))).trans (hb5.mono (Nat.le_of_lt g3))).setCell (Nat.le_refl _) _).setCell (Nat.le_refl _) _
                            | false =>
                              have hcc : Hid (cd = 0) := by unfold Hid; rw [hcode.out]; simp [v27]
                              have hB := Lib.hid (hno.out hcc.out)
                              have HG := Lib.hid (hgood.out hcc.out)
                              clear hyes hno hgood hcode
                              go_wp2
                              go_roundg (ps.length - (k + 1))
                              case measure => omega
                              case rel => exact ⟨k + 1, by omega, by omega, by go_num, hwb, hB, by unfold Hid; rw [hlas.out]; exact HG.out.1⟩
                  | false =>
                    have hcc : Hid (cd = 7) := by unfold Hid; rw [hcode.out]; simp
                    have hP := Lib.hid (hyes.out (by rw [hcc.out]; decide))
                    clear hyes hno hgood hcode
                    go_wp2_with fail
                    refine (At_any _ _ _).mono ?_
                    rintro e w5 ⟨rfl, hb5⟩
                    simp only [faultV]
                    have hbx8 := (hb5.block w.heap.size g3).trans hbox
                    obtain ⟨p0, p1, p2, p3⟩ := box2 hbx8
                    go_wp2
                    obtain ⟨r0, r1, _, r3⟩ := box2 (box2_set hbx8 (.int .i64 7) (.int .i64 k))
                    refine bodyPost_ret (v := faultV 7 k) (by simp [results, Try.results13, go_sem, r0, r1, faultV]) rfl ⟨by rw [hP.out, hcc.out], ?_⟩
                    exact (((hb0.trans (hwb.mono (Nat.le_succ _))).trans (hb5.mono (Nat.le_of_lt g3))).setCell (Nat.le_refl _) _).setCell (Nat.le_refl _) _
            · by_cases v2 : pk = 2
              · as_aux_lemma =>
                  subst v2
                  go_wp2
                  go_quiet (fail)
                  have hbx7 := below_drewN hbx3 nq
                  go_upto_region 18 with fail
                  go_cut [13] (fun s13 wx => (∃ c', s13 = .bool c' ∧ Hid (c' = true ↔ (k + 1 < ps.length ∧ nextK ps k = 2))) ∧ wx.heap[wr.heap.size]? = some (.cells #[.int .i64 (2), .string nm, .slice da pn dc] 51) ∧ Below wA.heap.size wA wx)
                  case first =>
                    by_cases hlt2 : k + 1 < ps.length
                    · obtain ⟨b2, off2, da2, dc2, he2, n0, -⟩ := HC.out (k + 1) hlt2
                      simp only [Option.some.injEq, Addr.mk.injEq, and_true] at he2
                      obtain ⟨rfl, rfl⟩ := he2
                      have n1 := (hbw.cell (p := ⟨b, off + (k + 1) * 3, none⟩) (World.block_lt_of_cell? _ _ n0)).trans n0
                      have n2 := (hbA.cell (p := ⟨b, off + (k + 1) * 3, none⟩) (World.block_lt_of_cell? _ _ n1)).trans n1
                      have n3 := (hbx3.cell (p := ⟨b, off + (k + 1) * 3, none⟩) (World.block_lt_of_cell? _ _ n2)).trans n2
                      have hnk := Lib.hid (show nextK ps k = ps[k + 1].k by unfold nextK; simp [List.getD, hlt2])
                      have hlti : ((k : Int) + 1 < (ps.length : Int)) := ni_lt hlt2
                      generalize ps[k + 1].k = nk at *
                      clear n0 n1 n2
                      go_wp2
                      go_meet
                      exact ⟨⟨_, rfl, by unfold Hid; rw [hnk.out]; simp [hlt2]⟩, hbx5, hbx7⟩
                    · have hlti : ¬ ((k : Int) + 1 < (ps.length : Int)) := ni_nlt hlt2
                      go_wp2
                      go_meet
                      exact ⟨⟨_, rfl, by unfold Hid; simp [hlt2]⟩, hbx5, hbx7⟩
                  case rest =>
                    obtain ⟨⟨fo, rfl, hfo⟩, hbx8, hbx9⟩ := hcut
                    clear hbx5 hbx3 y0 y1 y2 y3 y4 hbx7
                    have hbx5 := hbx8
                    have hbx3 := hbx9
                    clear hbx8 hbx9
                    obtain ⟨y0, y1, y2, y3, y4⟩ := box3 hbx5
                    have hwb := hb.trans ((ext_trans hbA hbx3).mono (B' := w.heap.size + 1) (below_box_le hb))
                    have hbox := (hwb.block w.heap.size (Nat.lt_succ_self _)).trans hbx0
                    obtain ⟨g0, g1, g2, g3⟩ := box2 hbox
                    have hcall := NameOk_any nm
                    go_upto_region 21 with fail
                    generalize nameOk nm = no at *
                    go_wp2_with fail
                    refine (hcall _ hnsz).mono ?_
                    rintro e wz ⟨rfl, rfl⟩
                    clear hcall
                    cases no with
                    | true =>
                      cases tw with
                      | true =>
                        have hcc : Hid (cd = 8) := by unfold Hid; rw [hcode.out]; simp
                        have hP := Lib.hid (hyes.out (by rw [hcc.out]; decide))
                        clear hyes hno hgood hcode
                        go_wp2_with fail
                        refine (At_any _ _ _).mono ?_
                        rintro e w5 ⟨rfl, hb5⟩
                        simp only [faultV]
                        have hbx8 := (hb5.block w.heap.size g3).trans hbox
                        obtain ⟨p0, p1, p2, p3⟩ := box2 hbx8
                        go_wp2
                        obtain ⟨r0, r1, _, r3⟩ := box2 (box2_set hbx8 (.int .i64 8) (.int .i64 k))
                        refine bodyPost_ret (v := faultV 8 k) (by simp [results, Try.results13, go_sem, r0, r1, faultV]) rfl ⟨by rw [hP.out, hcc.out], ?_⟩
                        exact (((hb0.trans (hwb.mono (Nat.le_succ _))).trans (hb5.mono (Nat.le_of_lt g3))).setCell (Nat.le_refl _) _).setCell (Nat.le_refl _) _
                      | false =>
                        by_cases p2 : 1 < pn
                        · have p2i : ((pn : Int) > 1) := ni_gt p2
                          have hcc : Hid (cd = 6) := by unfold Hid; rw [hcode.out]; simp [p2]
                          have hP := Lib.hid (hyes.out (by rw [hcc.out]; decide))
                          clear hyes hno hgood hcode
                          go_wp2_with fail
                          refine (At_any _ _ _).mono ?_
                          rintro e w5 ⟨rfl, hb5⟩
                          simp only [faultV]
                          have hbx8 := (hb5.block w.heap.size g3).trans hbox
                          obtain ⟨p0, p1, p2, p3⟩ := box2 hbx8
                          go_wp2
                          obtain ⟨r0, r1, _, r3⟩ := box2 (box2_set hbx8 (.int .i64 6) (.int .i64 k))
                          refine bodyPost_ret (v := faultV 6 k) (by simp [results, Try.results13, go_sem, r0, r1, faultV]) rfl ⟨by rw [hP.out, hcc.out], ?_⟩
                          exact (((hb0.trans (hwb.mono (Nat.le_succ _))).trans (hb5.mono (Nat.le_of_lt g3))).setCell (Nat.le_refl _) _).setCell (Nat.le_refl _) _
                        · have p2i : ¬ ((pn : Int) > 1) := ni_ngt p2
                          by_cases p1 : pn = 1
                          · subst p1
                            by_cases v27 : 2 < bf
                            · have hcc : Hid (cd = 11) := by unfold Hid; rw [hcode.out]; simp [v27]
                              have hP := Lib.hid (hyes.out (by rw [hcc.out]; decide))
                              clear hyes hno hgood hcode
                              go_wp2_with fail
                              refine (At_any _ _ _).mono ?_
                              rintro e w5 ⟨rfl, hb5⟩
                              simp only [faultV]
                              have hbx8 := (hb5.block w.heap.size g3).trans hbox
                              obtain ⟨p0, p1, p2, p3⟩ := box2 hbx8
                              go_wp2
                              obtain ⟨r0, r1, _, r3⟩ := box2 (box2_set hbx8 (.int .i64 11) (.int .i64 k))
                              refine bodyPost_ret (v := faultV 11 k) (by simp [results, Try.results13, go_sem, r0, r1, faultV]) rfl ⟨by rw [hP.out, hcc.out], ?_⟩
                              exact (((hb0.trans (hwb.mono (Nat.le_succ _))).trans (hb5.mono (Nat.le_of_lt g3))).setCell (Nat.le_refl _) _).setCell (Nat.le_refl _) _
                            · by_cases v29 : bf ≤ 0
                              · have hcc : Hid (cd = 11) := by unfold Hid; rw [hcode.out]; simp [v27, v29]
                                have hP := Lib.hid (hyes.out (by rw [hcc.out]; decide))
                                clear hyes hno hgood hcode
                                go_wp2_with fail
                                refine (At_any _ _ _).mono ?_
                                rintro e w5 ⟨rfl, hb5⟩
                                simp only [faultV]
                                have hbx8 := (hb5.block w.heap.size g3).trans hbox
                                obtain ⟨p0, p1, p2, p3⟩ := box2 hbx8
                                go_wp2
                                obtain ⟨r0, r1, _, r3⟩ := box2 (box2_set hbx8 (.int .i64 11) (.int .i64 k))
                                refine bodyPost_ret (v := faultV 11 k) (by simp [results, Try.results13, go_sem, r0, r1, faultV]) rfl ⟨by rw [hP.out, hcc.out], ?_⟩
                                exact (((hb0.trans (hwb.mono (Nat.le_succ _))).trans (hb5.mono (Nat.le_of_lt g3))).setCell (Nat.le_refl _) _).setCell (Nat.le_refl _) _
                              · have hcc : Hid (cd = 0) := by unfold Hid; rw [hcode.out]; simp [v27, v29]
                                have hB := Lib.hid (hno.out hcc.out)
                                have HG := Lib.hid (hgood.out hcc.out)
                                clear hyes hno hgood hcode
                                go_wp2
                                go_roundg (ps.length - (k + 1))
                                case measure => omega
                                case rel => exact ⟨k + 1, by omega, by omega, by go_num, hwb, hB, by unfold Hid; rw [hlas.out]; exact HG.out.1⟩
                          · obtain rfl : pn = 0 := ni_zero p1 p2
                            by_cases v27 : 2 < bf
                            · have hcc : Hid (cd = 11) := by unfold Hid; rw [hcode.out]; simp [v27]
                              have hP := Lib.hid (hyes.out (by rw [hcc.out]; decide))
                              clear hyes hno hgood hcode
                              go_wp2_with fail
                              refine (At_any _ _ _).mono ?_
                              rintro e w5 ⟨rfl, hb5⟩
                              simp only [faultV]
                              have hbx8 := (hb5.block w.heap.size g3).trans hbox
                              obtain ⟨p0, p1, p2, p3⟩ := box2 hbx8
                              go_wp2
                              obtain ⟨r0, r1, _, r3⟩ := box2 (box2_set hbx8 (.int .i64 11) (.int .i64 k))
                              refine bodyPost_ret (v := faultV 11 k) (by simp [results, Try.results13, go_sem, r0, r1, faultV]) rfl ⟨by rw [hP.out, hcc.out], ?_⟩
                              exact (((hb0.trans (hwb.mono (Nat.le_succ _))).trans (hb5.mono (Nat.le_of_lt g3))).setCell (Nat.le_refl _) _).setCell (Nat.le_refl _) _
                            · by_cases v29 : bf ≤ 0
                              · have hcc : Hid (cd = 11) := by unfold Hid; rw [hcode.out]; simp [v27, v29]
                                have hP := Lib.hid (hyes.out (by rw [hcc.out]; decide))
                                clear hyes hno hgood hcode
                                go_wp2_with fail
                                refine (At_any _ _ _).mono ?_
                                rintro e w5 ⟨rfl, hb5⟩
                                simp only [faultV]
                                have hbx8 := (hb5.block w.heap.size g3).trans hbox
                                obtain ⟨p0, p1, p2, p3⟩ := box2 hbx8
                                go_wp2
                                obtain ⟨r0, r1, _, r3⟩ := box2 (box2_set hbx8 (.int .i64 11) (.int .i64 k))
                                refine bodyPost_ret (v := faultV 11 k) (by simp [results, Try.results13, go_sem, r0, r1, faultV]) rfl ⟨by rw [hP.out, hcc.out], ?_⟩
                                exact (((hb0.trans (hwb.mono (Nat.le_succ _))).trans (hb5.mono (Nat.le_of_lt g3))).setCell (Nat.le_refl _) _).setCell (Nat.le_refl _) _
                              · have hcc : Hid (cd = 0) := by unfold Hid; rw [hcode.out]; simp [v27, v29]
                                have hB := Lib.hid (hno.out hcc.out)
                                have HG := Lib.hid (hgood.out hcc.out)
                                clear hyes hno hgood hcode
                                go_wp2
                                go_roundg (ps.length - (k + 1))
                                case measure => omega
                                case rel => exact ⟨k + 1, by omega, by omega, by go_num, hwb, hB, by unfold Hid; rw [hlas.out]; exact HG.out.1⟩
                    | false =>
                      have hcc : Hid (cd = 7) := by unfold Hid; rw [hcode.out]; simp
                      have hP := Lib.hid (hyes.out (by rw [hcc.out]; decide))
                      clear hyes hno hgood hcode
                      go_wp2_with fail
                      refine (At_any _ _ _).mono ?_
                      rintro e w5 ⟨rfl, hb5⟩
                      simp only [faultV]
                      have hbx8 := (hb5.block w.heap.size g3).trans hbox
                      obtain ⟨p0, p1, p2, p3⟩ := box2 hbx8
                      go_wp2
                      obtain ⟨r0, r1, _, r3⟩ := box2 (box2_set hbx8 (.int .i64 7) (.int .i64 k))
                      refine bodyPost_ret (v := faultV 7 k) (by simp [results, Try.results13, go_sem, r0, r1, faultV]) rfl ⟨by rw [hP.out, hcc.out], ?_⟩
                      exact (((hb0.trans (hwb.mono (Nat.le_succ _))).trans (hb5.mono (Nat.le_of_lt g3))).setCell (Nat.le_refl _) _).setCell (Nat.le_refl _) _
              · by_cases v1 : pk = 1
                · subst v1
                  cases hE : nm.toList.isEmpty with
                  | true => as_aux_lemma =>
                    have hE2 := Lib.hid (show strE nm = true from hE)
                    go_wp2
                    go_quiet (fail)
                    have hbx7 := below_drewN hbx3 nq
                    go_upto_region 18 with fail
                    go_cut [13] (fun s13 wx => (∃ c', s13 = .bool c' ∧ Hid (c' = true ↔ (k + 1 < ps.length ∧ nextK ps k = 2))) ∧ wx.heap[wr.heap.size]? = some (.cells #[.int .i64 (1), .string nm, .slice da pn dc] 51) ∧ Below wA.heap.size wA wx)
                    case first =>
                      by_cases hlt2 : k + 1 < ps.length
                      · obtain ⟨b2, off2, da2, dc2, he2, n0, -⟩ := HC.out (k + 1) hlt2
                        simp only [Option.some.injEq, Addr.mk.injEq, and_true] at he2
                        obtain ⟨rfl, rfl⟩ := he2
                        have n1 := (hbw.cell (p := ⟨b, off + (k + 1) * 3, none⟩) (World.block_lt_of_cell? _ _ n0)).trans n0
                        have n2 := (hbA.cell (p := ⟨b, off + (k + 1) * 3, none⟩) (World.block_lt_of_cell? _ _ n1)).trans n1
                        have n3 := (hbx3.cell (p := ⟨b, off + (k + 1) * 3, none⟩) (World.block_lt_of_cell? _ _ n2)).trans n2
                        have hnk := Lib.hid (show nextK ps k = ps[k + 1].k by unfold nextK; simp [List.getD, hlt2])
                        have hlti : ((k : Int) + 1 < (ps.length : Int)) := ni_lt hlt2
                        generalize ps[k + 1].k = nk at *
                        clear n0 n1 n2
                        go_wp2
                        go_meet
                        exact ⟨⟨_, rfl, by unfold Hid; rw [hnk.out]; simp [hlt2]⟩, hbx5, hbx7⟩
                      · have hlti : ¬ ((k : Int) + 1 < (ps.length : Int)) := ni_nlt hlt2
                        go_wp2
                        go_meet
                        exact ⟨⟨_, rfl, by unfold Hid; simp [hlt2]⟩, hbx5, hbx7⟩
                    case rest =>
                      obtain ⟨⟨fo, rfl, hfo⟩, hbx8, hbx9⟩ := hcut
                      clear hbx5 hbx3 y0 y1 y2 y3 y4 hbx7
                      have hbx5 := hbx8
                      have hbx3 := hbx9
                      clear hbx8 hbx9
                      obtain ⟨y0, y1, y2, y3, y4⟩ := box3 hbx5
                      have hwb := hb.trans ((ext_trans hbA hbx3).mono (B' := w.heap.size + 1) (below_box_le hb))
                      have hbox := (hwb.block w.heap.size (Nat.lt_succ_self _)).trans hbx0
                      obtain ⟨g0, g1, g2, g3⟩ := box2 hbox
                      cases tw with
                      | true =>
                        have hcc : Hid (cd = 8) := by unfold Hid; rw [hcode.out]; simp [hE2.out]
                        have hP := Lib.hid (hyes.out (by rw [hcc.out]; decide))
                        clear hyes hno hgood hcode
                        go_wp2_with fail
                        refine (At_any _ _ _).mono ?_
                        rintro e w5 ⟨rfl, hb5⟩
                        simp only [faultV]
                        have hbx8 := (hb5.block w.heap.size g3).trans hbox
                        obtain ⟨p0, p1, p2, p3⟩ := box2 hbx8
                        go_wp2
                        obtain ⟨r0, r1, _, r3⟩ := box2 (box2_set hbx8 (.int .i64 8) (.int .i64 k))
                        refine bodyPost_ret (v := faultV 8 k) (by simp [results, Try.results13, go_sem, r0, r1, faultV]) rfl ⟨by rw [hP.out, hcc.out], ?_⟩
                        exact (((hb0.trans (hwb.mono (Nat.le_succ _))).trans (hb5.mono (Nat.le_of_lt g3))).setCell (Nat.le_refl _) _).setCell (Nat.le_refl _) _
                      | false =>
                        by_cases p2 : 1 < pn
                        · have p2i : ((pn : Int) > 1) := ni_gt p2
                          have hcc : Hid (cd = 6) := by unfold Hid; rw [hcode.out]; simp [hE2.out, p2]
                          have hP := Lib.hid (hyes.out (by rw [hcc.out]; decide))
                          clear hyes hno hgood hcode
                          go_wp2_with fail
                          refine (At_any _ _ _).mono ?_
                          rintro e w5 ⟨rfl, hb5⟩
                          simp only [faultV]
                          have hbx8 := (hb5.block w.heap.size g3).trans hbox
                          obtain ⟨p0, p1, p2, p3⟩ := box2 hbx8
                          go_wp2
                          obtain ⟨r0, r1, _, r3⟩ := box2 (box2_set hbx8 (.int .i64 6) (.int .i64 k))
                          refine bodyPost_ret (v := faultV 6 k) (by simp [results, Try.results13, go_sem, r0, r1, faultV]) rfl ⟨by rw [hP.out, hcc.out], ?_⟩
                          exact (((hb0.trans (hwb.mono (Nat.le_succ _))).trans (hb5.mono (Nat.le_of_lt g3))).setCell (Nat.le_refl _) _).setCell (Nat.le_refl _) _
                        · have p2i : ¬ ((pn : Int) > 1) := ni_ngt p2
                          by_cases p1 : pn = 1
                          · subst p1
                            have hcc : Hid (cd = 6) := by unfold Hid; rw [hcode.out]; simp [hE2.out]
                            have hP := Lib.hid (hyes.out (by rw [hcc.out]; decide))
                            clear hyes hno hgood hcode
                            go_wp2_with fail
                            refine (At_any _ _ _).mono ?_
                            rintro e w5 ⟨rfl, hb5⟩
                            simp only [faultV]
                            have hbx8 := (hb5.block w.heap.size g3).trans hbox
                            obtain ⟨p0, p1, p2, p3⟩ := box2 hbx8
                            go_wp2
                            obtain ⟨r0, r1, _, r3⟩ := box2 (box2_set hbx8 (.int .i64 6) (.int .i64 k))
                            refine bodyPost_ret (v := faultV 6 k) (by simp [results, Try.results13, go_sem, r0, r1, faultV]) rfl ⟨by rw [hP.out, hcc.out], ?_⟩
                            exact (((hb0.trans (hwb.mono (Nat.le_succ _))).trans (hb5.mono (Nat.le_of_lt g3))).setCell (Nat.le_refl _) _).setCell (Nat.le_refl _) _
                          · obtain rfl : pn = 0 := ni_zero p1 p2
                            by_cases v27 : 1 < bf
                            · have hcc : Hid (cd = 11) := by unfold Hid; rw [hcode.out]; simp [hE2.out, v27]
                              have hP := Lib.hid (hyes.out (by rw [hcc.out]; decide))
                              clear hyes hno hgood hcode
                              go_wp2_with fail
                              refine (At_any _ _ _).mono ?_
                              rintro e w5 ⟨rfl, hb5⟩
                              simp only [faultV]
                              have hbx8 := (hb5.block w.heap.size g3).trans hbox
                              obtain ⟨p0, p1, p2, p3⟩ := box2 hbx8
                              go_wp2
                              obtain ⟨r0, r1, _, r3⟩ := box2 (box2_set hbx8 (.int .i64 11) (.int .i64 k))
                              refine bodyPost_ret (v := faultV 11 k) (by simp [results, Try.results13, go_sem, r0, r1, faultV]) rfl ⟨by rw [hP.out, hcc.out], ?_⟩
                              exact (((hb0.trans (hwb.mono (Nat.le_succ _))).trans (hb5.mono (Nat.le_of_lt g3))).setCell (Nat.le_refl _) _).setCell (Nat.le_refl _) _
                            · by_cases v28 : 1 = bf
                              · subst v28
                                have hcc : Hid (cd = 11) := by unfold Hid; rw [hcode.out]; simp [hE2.out, Int.lt_irrefl]
                                have hP := Lib.hid (hyes.out (by rw [hcc.out]; decide))
                                clear hyes hno hgood hcode
                                go_wp2_with fail
                                refine (At_any _ _ _).mono ?_
                                rintro e w5 ⟨rfl, hb5⟩
                                simp only [faultV]
                                have hbx8 := (hb5.block w.heap.size g3).trans hbox
                                obtain ⟨p0, p1, p2, p3⟩ := box2 hbx8
                                go_wp2
                                obtain ⟨r0, r1, _, r3⟩ := box2 (box2_set hbx8 (.int .i64 11) (.int .i64 k))
                                refine bodyPost_ret (v := faultV 11 k) (by simp [results, Try.results13, go_sem, r0, r1, faultV]) rfl ⟨by rw [hP.out, hcc.out], ?_⟩
                                exact (((hb0.trans (hwb.mono (Nat.le_succ _))).trans (hb5.mono (Nat.le_of_lt g3))).setCell (Nat.le_refl _) _).setCell (Nat.le_refl _) _
                              · have v28b : ((1 : Int) == bf) = false := beq_false_of_ne v28
                                cases fo with
                                | true =>
                                  have hfo2 := Lib.hid (hfo.out.mp rfl)
                                  have hcc : Hid (cd = 0) := by unfold Hid; rw [hcode.out]; simp [hE2.out, v27, v28, hfo2.out.1, hfo2.out.2]
                                  have hB := Lib.hid (hno.out hcc.out)
                                  have HG := Lib.hid (hgood.out hcc.out)
                                  clear hyes hno hgood hcode
                                  go_wp2
                                  go_roundg (ps.length - (k + 1))
                                  case measure => omega
                                  case rel => exact ⟨k + 1, by omega, by omega, by go_num, hwb, hB, by unfold Hid; rw [hlas.out]; exact HG.out.1⟩
                                | false =>
                                  have hfo2 := Lib.hid (fo_not hfo.out)
                                  have hcc : Hid (cd = 11) := by unfold Hid; rw [hcode.out]; simp [hE2.out, v27, v28, hfo2.out]
                                  have hP := Lib.hid (hyes.out (by rw [hcc.out]; decide))
                                  clear hyes hno hgood hcode
                                  go_wp2_with fail
                                  refine (At_any _ _ _).mono ?_
                                  rintro e w5 ⟨rfl, hb5⟩
                                  simp only [faultV]
                                  have hbx8 := (hb5.block w.heap.size g3).trans hbox
                                  obtain ⟨p0, p1, p2, p3⟩ := box2 hbx8
                                  go_wp2
                                  obtain ⟨r0, r1, _, r3⟩ := box2 (box2_set hbx8 (.int .i64 11) (.int .i64 k))
                                  refine bodyPost_ret (v := faultV 11 k) (by simp [results, Try.results13, go_sem, r0, r1, faultV]) rfl ⟨by rw [hP.out, hcc.out], ?_⟩
                                  exact (((hb0.trans (hwb.mono (Nat.le_succ _))).trans (hb5.mono (Nat.le_of_lt g3))).setCell (Nat.le_refl _) _).setCell (Nat.le_refl _) _
                  | false => as_aux_lemma =>
                    have hE2 := Lib.hid (show strE nm = false from hE)
                    go_wp2
                    go_quiet (fail)
                    have hbx7 := below_drewN hbx3 nq
                    go_upto_region 18 with fail
                    go_cut [13] (fun s13 wx => (∃ c', s13 = .bool c' ∧ Hid (c' = true ↔ (k + 1 < ps.length ∧ nextK ps k = 2))) ∧ wx.heap[wr.heap.size]? = some (.cells #[.int .i64 (1), .string nm, .slice da pn dc] 51) ∧ Below wA.heap.size wA wx)
                    case first =>
                      by_cases hlt2 : k + 1 < ps.length
                      · obtain ⟨b2, off2, da2, dc2, he2, n0, -⟩ := HC.out (k + 1) hlt2
                        simp only [Option.some.injEq, Addr.mk.injEq, and_true] at he2
                        obtain ⟨rfl, rfl⟩ := he2
                        have n1 := (hbw.cell (p := ⟨b, off + (k + 1) * 3, none⟩) (World.block_lt_of_cell? _ _ n0)).trans n0
                        have n2 := (hbA.cell (p := ⟨b, off + (k + 1) * 3, none⟩) (World.block_lt_of_cell? _ _ n1)).trans n1
                        have n3 := (hbx3.cell (p := ⟨b, off + (k + 1) * 3, none⟩) (World.block_lt_of_cell? _ _ n2)).trans n2
                        have hnk := Lib.hid (show nextK ps k = ps[k + 1].k by unfold nextK; simp [List.getD, hlt2])
                        have hlti : ((k : Int) + 1 < (ps.length : Int)) := ni_lt hlt2
                        generalize ps[k + 1].k = nk at *
                        clear n0 n1 n2
                        go_wp2
                        go_meet
                        exact ⟨⟨_, rfl, by unfold Hid; rw [hnk.out]; simp [hlt2]⟩, hbx5, hbx7⟩
                      · have hlti : ¬ ((k : Int) + 1 < (ps.length : Int)) := ni_nlt hlt2
                        go_wp2
                        go_meet
                        exact ⟨⟨_, rfl, by unfold Hid; simp [hlt2]⟩, hbx5, hbx7⟩
                    case rest =>
                      obtain ⟨⟨fo, rfl, hfo⟩, hbx8, hbx9⟩ := hcut
                      clear hbx5 hbx3 y0 y1 y2 y3 y4 hbx7
                      have hbx5 := hbx8
                      have hbx3 := hbx9
                      clear hbx8 hbx9
                      obtain ⟨y0, y1, y2, y3, y4⟩ := box3 hbx5
                      have hwb := hb.trans ((ext_trans hbA hbx3).mono (B' := w.heap.size + 1) (below_box_le hb))
                      have hbox := (hwb.block w.heap.size (Nat.lt_succ_self _)).trans hbx0
                      obtain ⟨g0, g1, g2, g3⟩ := box2 hbox
                      have hcall := NameOk_any nm
                      go_upto_region 21 with fail
                      generalize nameOk nm = no at *
                      go_wp2_with fail
                      refine (hcall _ hnsz).mono ?_
                      rintro e wz ⟨rfl, rfl⟩
                      clear hcall
                      cases no with
                      | true =>
                        cases tw with
                        | true =>
                          have hcc : Hid (cd = 8) := by unfold Hid; rw [hcode.out]; simp [hE2.out]
                          have hP := Lib.hid (hyes.out (by rw [hcc.out]; decide))
                          clear hyes hno hgood hcode
                          go_wp2_with fail
                          refine (At_any _ _ _).mono ?_
                          rintro e w5 ⟨rfl, hb5⟩
                          simp only [faultV]
                          have hbx8 := (hb5.block w.heap.size g3).trans hbox
                          obtain ⟨p0, p1, p2, p3⟩ := box2 hbx8
                          go_wp2
                          obtain ⟨r0, r1, _, r3⟩ := box2 (box2_set hbx8 (.int .i64 8) (.int .i64 k))
                          refine bodyPost_ret (v := faultV 8 k) (by simp [results, Try.results13, go_sem, r0, r1, faultV]) rfl ⟨by rw [hP.out, hcc.out], ?_⟩
                          exact (((hb0.trans (hwb.mono (Nat.le_succ _))).trans (hb5.mono (Nat.le_of_lt g3))).setCell (Nat.le_refl _) _).setCell (Nat.le_refl _) _
                        | false =>
                          by_cases p2 : 1 < pn
                          · have p2i : ((pn : Int) > 1) := ni_gt p2
                            have hcc : Hid (cd = 6) := by unfold Hid; rw [hcode.out]; simp [hE2.out, p2]
                            have hP := Lib.hid (hyes.out (by rw [hcc.out]; decide))
                            clear hyes hno hgood hcode
                            go_wp2_with fail
                            refine (At_any _ _ _).mono ?_
                            rintro e w5 ⟨rfl, hb5⟩
                            simp only [faultV]
                            have hbx8 := (hb5.block w.heap.size g3).trans hbox
                            obtain ⟨p0, p1, p2, p3⟩ := box2 hbx8
                            go_wp2
                            obtain ⟨r0, r1, _, r3⟩ := box2 (box2_set hbx8 (.int .i64 6) (.int .i64 k))
                            refine bodyPost_ret (v := faultV 6 k) (by simp [results, Try.results13, go_sem, r0, r1, faultV]) rfl ⟨by rw [hP.out, hcc.out], ?_⟩
                            exact (((hb0.trans (hwb.mono (Nat.le_succ _))).trans (hb5.mono (Nat.le_of_lt g3))).setCell (Nat.le_refl _) _).setCell (Nat.le_refl _) _
                          · have p2i : ¬ ((pn : Int) > 1) := ni_ngt p2
                            by_cases p1 : pn = 1
                            · subst p1
                              have hcc : Hid (cd = 6) := by unfold Hid; rw [hcode.out]; simp [hE2.out]
                              have hP := Lib.hid (hyes.out (by rw [hcc.out]; decide))
                              clear hyes hno hgood hcode
                              go_wp2_with fail
                              refine (At_any _ _ _).mono ?_
                              rintro e w5 ⟨rfl, hb5⟩
                              simp only [faultV]
                              have hbx8 := (hb5.block w.heap.size g3).trans hbox
                              obtain ⟨p0, p1, p2, p3⟩ := box2 hbx8
                              go_wp2
                              obtain ⟨r0, r1, _, r3⟩ := box2 (box2_set hbx8 (.int .i64 6) (.int .i64 k))
                              refine bodyPost_ret (v := faultV 6 k) (by simp [results, Try.results13, go_sem, r0, r1, faultV]) rfl ⟨by rw [hP.out, hcc.out], ?_⟩
                              exact (((hb0.trans (hwb.mono (Nat.le_succ _))).trans (hb5.mono (Nat.le_of_lt g3))).setCell (Nat.le_refl _) _).setCell (Nat.le_refl _) _
                            · obtain rfl : pn = 0 := ni_zero p1 p2
                              by_cases v27 : 1 < bf
                              · have hcc : Hid (cd = 11) := by unfold Hid; rw [hcode.out]; simp [hE2.out, v27]
                                have hP := Lib.hid (hyes.out (by rw [hcc.out]; decide))
                                clear hyes hno hgood hcode
                                go_wp2_with fail
                                refine (At_any _ _ _).mono ?_
                                rintro e w5 ⟨rfl, hb5⟩
                                simp only [faultV]
                                have hbx8 := (hb5.block w.heap.size g3).trans hbox
                                obtain ⟨p0, p1, p2, p3⟩ := box2 hbx8
                                go_wp2
                                obtain ⟨r0, r1, _, r3⟩ := box2 (box2_set hbx8 (.int .i64 11) (.int .i64 k))
                                refine bodyPost_ret (v := faultV 11 k) (by simp [results, Try.results13, go_sem, r0, r1, faultV]) rfl ⟨by rw [hP.out, hcc.out], ?_⟩
                                exact (((hb0.trans (hwb.mono (Nat.le_succ _))).trans (hb5.mono (Nat.le_of_lt g3))).setCell (Nat.le_refl _) _).setCell (Nat.le_refl _) _
                              · by_cases v28 : 1 = bf
                                · subst v28
                                  have hcc : Hid (cd = 11) := by unfold Hid; rw [hcode.out]; simp [hE2.out, Int.lt_irrefl]
                                  have hP := Lib.hid (hyes.out (by rw [hcc.out]; decide))
                                  clear hyes hno hgood hcode
                                  go_wp2_with fail
                                  refine (At_any _ _ _).mono ?_
                                  rintro e w5 ⟨rfl, hb5⟩
                                  simp only [faultV]
                                  have hbx8 := (hb5.block w.heap.size g3).trans hbox
                                  obtain ⟨p0, p1, p2, p3⟩ := box2 hbx8
                                  go_wp2
                                  obtain ⟨r0, r1, _, r3⟩ := box2 (box2_set hbx8 (.int .i64 11) (.int .i64 k))
                                  refine bodyPost_ret (v := faultV 11 k) (by simp [results, Try.results13, go_sem, r0, r1, faultV]) rfl ⟨by rw [hP.out, hcc.out], ?_⟩
                                  exact (((hb0.trans (hwb.mono (Nat.le_succ _))).trans (hb5.mono (Nat.le_of_lt g3))).setCell (Nat.le_refl _) _).setCell (Nat.le_refl _) _
                                · have v28b : ((1 : Int) == bf) = false := beq_false_of_ne v28
                                  have hcc : Hid (cd = 0) := by unfold Hid; rw [hcode.out]; simp [hE2.out, v27, v28]
                                  have hB := Lib.hid (hno.out hcc.out)
                                  have HG := Lib.hid (hgood.out hcc.out)
                                  clear hyes hno hgood hcode
                                  go_wp2
                                  go_roundg (ps.length - (k + 1))
                                  case measure => omega
                                  case rel => exact ⟨k + 1, by omega, by omega, by go_num, hwb, hB, by unfold Hid; rw [hlas.out]; exact HG.out.1⟩
                      | false =>
                        have hcc : Hid (cd = 7) := by unfold Hid; rw [hcode.out]; simp [hE2.out]
                        have hP := Lib.hid (hyes.out (by rw [hcc.out]; decide))
                        clear hyes hno hgood hcode
                        go_wp2_with fail
                        refine (At_any _ _ _).mono ?_
                        rintro e w5 ⟨rfl, hb5⟩
                        simp only [faultV]
                        have hbx8 := (hb5.block w.heap.size g3).trans hbox
                        obtain ⟨p0, p1, p2, p3⟩ := box2 hbx8
                        go_wp2
                        obtain ⟨r0, r1, _, r3⟩ := box2 (box2_set hbx8 (.int .i64 7) (.int .i64 k))
                        refine bodyPost_ret (v := faultV 7 k) (by simp [results, Try.results13, go_sem, r0, r1, faultV]) rfl ⟨by rw [hP.out, hcc.out], ?_⟩
                        exact (((hb0.trans (hwb.mono (Nat.le_succ _))).trans (hb5.mono (Nat.le_of_lt g3))).setCell (Nat.le_refl _) _).setCell (Nat.le_refl _) _
                · by_cases v3 : pk = 3
                  · as_aux_lemma =>
                      subst v3
                      go_wp2
                      go_quiet (fail)
                      have hbx7 := below_drewN hbx3 nq
                      go_upto_region 18 with fail
                      go_cut [13] (fun s13 wx => (∃ c', s13 = .bool c' ∧ Hid (c' = true ↔ (k + 1 < ps.length ∧ nextK ps k = 2))) ∧ wx.heap[wr.heap.size]? = some (.cells #[.int .i64 (3), .string nm, .slice da pn dc] 51) ∧ Below wA.heap.size wA wx)
                      case first =>
                        by_cases hlt2 : k + 1 < ps.length
                        · obtain ⟨b2, off2, da2, dc2, he2, n0, -⟩ := HC.out (k + 1) hlt2
                          simp only [Option.some.injEq, Addr.mk.injEq, and_true] at he2
                          obtain ⟨rfl, rfl⟩ := he2
                          have n1 := (hbw.cell (p := ⟨b, off + (k + 1) * 3, none⟩) (World.block_lt_of_cell? _ _ n0)).trans n0
                          have n2 := (hbA.cell (p := ⟨b, off + (k + 1) * 3, none⟩) (World.block_lt_of_cell? _ _ n1)).trans n1
                          have n3 := (hbx3.cell (p := ⟨b, off + (k + 1) * 3, none⟩) (World.block_lt_of_cell? _ _ n2)).trans n2
                          have hnk := Lib.hid (show nextK ps k = ps[k + 1].k by unfold nextK; simp [List.getD, hlt2])
                          have hlti : ((k : Int) + 1 < (ps.length : Int)) := ni_lt hlt2
                          generalize ps[k + 1].k = nk at *
                          clear n0 n1 n2
                          go_wp2
                          go_meet
                          exact ⟨⟨_, rfl, by unfold Hid; rw [hnk.out]; simp [hlt2]⟩, hbx5, hbx7⟩
                        · have hlti : ¬ ((k : Int) + 1 < (ps.length : Int)) := ni_nlt hlt2
                          go_wp2
                          go_meet
                          exact ⟨⟨_, rfl, by unfold Hid; simp [hlt2]⟩, hbx5, hbx7⟩
                      case rest =>
                        obtain ⟨⟨fo, rfl, hfo⟩, hbx8, hbx9⟩ := hcut
                        clear hbx5 hbx3 y0 y1 y2 y3 y4 hbx7
                        have hbx5 := hbx8
                        have hbx3 := hbx9
                        clear hbx8 hbx9
                        obtain ⟨y0, y1, y2, y3, y4⟩ := box3 hbx5
                        have hwb := hb.trans ((ext_trans hbA hbx3).mono (B' := w.heap.size + 1) (below_box_le hb))
                        have hbox := (hwb.block w.heap.size (Nat.lt_succ_self _)).trans hbx0
                        obtain ⟨g0, g1, g2, g3⟩ := box2 hbox
                        have hcall := NameOk_any nm
                        go_upto_region 21 with fail
                        generalize nameOk nm = no at *
                        go_wp2_with fail
                        refine (hcall _ hnsz).mono ?_
                        rintro e wz ⟨rfl, rfl⟩
                        clear hcall
                        cases no with
                        | true =>
                          cases tw with
                          | true =>
                            have hcc : Hid (cd = 8) := by unfold Hid; rw [hcode.out]; simp
                            have hP := Lib.hid (hyes.out (by rw [hcc.out]; decide))
                            clear hyes hno hgood hcode
                            go_wp2_with fail
                            refine (At_any _ _ _).mono ?_
                            rintro e w5 ⟨rfl, hb5⟩
                            simp only [faultV]
                            have hbx8 := (hb5.block w.heap.size g3).trans hbox
                            obtain ⟨p0, p1, p2, p3⟩ := box2 hbx8
                            go_wp2
                            obtain ⟨r0, r1, _, r3⟩ := box2 (box2_set hbx8 (.int .i64 8) (.int .i64 k))
                            refine bodyPost_ret (v := faultV 8 k) (by simp [results, Try.results13, go_sem, r0, r1, faultV]) rfl ⟨by rw [hP.out, hcc.out], ?_⟩
                            exact (((hb0.trans (hwb.mono (Nat.le_succ _))).trans (hb5.mono (Nat.le_of_lt g3))).setCell (Nat.le_refl _) _).setCell (Nat.le_refl _) _
                          | false =>
                            by_cases p2 : 1 < pn
                            · have p2i : ((pn : Int) > 1) := ni_gt p2
                              have hcc : Hid (cd = 6) := by unfold Hid; rw [hcode.out]; simp [p2]
                              have hP := Lib.hid (hyes.out (by rw [hcc.out]; decide))
                              clear hyes hno hgood hcode
                              go_wp2_with fail
                              refine (At_any _ _ _).mono ?_
                              rintro e w5 ⟨rfl, hb5⟩
                              simp only [faultV]
                              have hbx8 := (hb5.block w.heap.size g3).trans hbox
                              obtain ⟨p0, p1, p2, p3⟩ := box2 hbx8
                              go_wp2
                              obtain ⟨r0, r1, _, r3⟩ := box2 (box2_set hbx8 (.int .i64 6) (.int .i64 k))
                              refine bodyPost_ret (v := faultV 6 k) (by simp [results, Try.results13, go_sem, r0, r1, faultV]) rfl ⟨by rw [hP.out, hcc.out], ?_⟩
                              exact (((hb0.trans (hwb.mono (Nat.le_succ _))).trans (hb5.mono (Nat.le_of_lt g3))).setCell (Nat.le_refl _) _).setCell (Nat.le_refl _) _
                            · have p2i : ¬ ((pn : Int) > 1) := ni_ngt p2
                              by_cases p1 : pn = 1
                              · subst p1
                                have hcc : Hid (cd = 6) := by unfold Hid; rw [hcode.out]; simp
                                have hP := Lib.hid (hyes.out (by rw [hcc.out]; decide))
                                clear hyes hno hgood hcode
                                go_wp2_with fail
                                refine (At_any _ _ _).mono ?_
                                rintro e w5 ⟨rfl, hb5⟩
                                simp only [faultV]
                                have hbx8 := (hb5.block w.heap.size g3).trans hbox
                                obtain ⟨p0, p1, p2, p3⟩ := box2 hbx8
                                go_wp2
                                obtain ⟨r0, r1, _, r3⟩ := box2 (box2_set hbx8 (.int .i64 6) (.int .i64 k))
                                refine bodyPost_ret (v := faultV 6 k) (by simp [results, Try.results13, go_sem, r0, r1, faultV]) rfl ⟨by rw [hP.out, hcc.out], ?_⟩
                                exact (((hb0.trans (hwb.mono (Nat.le_succ _))).trans (hb5.mono (Nat.le_of_lt g3))).setCell (Nat.le_refl _) _).setCell (Nat.le_refl _) _
                              · obtain rfl : pn = 0 := ni_zero p1 p2
                                by_cases v27 : 3 < bf
                                · have hcc : Hid (cd = 11) := by unfold Hid; rw [hcode.out]; simp [v27]
                                  have hP := Lib.hid (hyes.out (by rw [hcc.out]; decide))
                                  clear hyes hno hgood hcode
                                  go_wp2_with fail
                                  refine (At_any _ _ _).mono ?_
                                  rintro e w5 ⟨rfl, hb5⟩
                                  simp only [faultV]
                                  have hbx8 := (hb5.block w.heap.size g3).trans hbox
                                  obtain ⟨p0, p1, p2, p3⟩ := box2 hbx8
                                  go_wp2
                                  obtain ⟨r0, r1, _, r3⟩ := box2 (box2_set hbx8 (.int .i64 11) (.int .i64 k))
                                  refine bodyPost_ret (v := faultV 11 k) (by simp [results, Try.results13, go_sem, r0, r1, faultV]) rfl ⟨by rw [hP.out, hcc.out], ?_⟩
                                  exact (((hb0.trans (hwb.mono (Nat.le_succ _))).trans (hb5.mono (Nat.le_of_lt g3))).setCell (Nat.le_refl _) _).setCell (Nat.le_refl _) _
                                · by_cases v28 : 3 = bf
                                  · subst v28
                                    have hcc : Hid (cd = 11) := by unfold Hid; rw [hcode.out]; simp [Int.lt_irrefl]
                                    have hP := Lib.hid (hyes.out (by rw [hcc.out]; decide))
                                    clear hyes hno hgood hcode
                                    go_wp2_with fail
                                    refine (At_any _ _ _).mono ?_
                                    rintro e w5 ⟨rfl, hb5⟩
                                    simp only [faultV]
                                    have hbx8 := (hb5.block w.heap.size g3).trans hbox
                                    obtain ⟨p0, p1, p2, p3⟩ := box2 hbx8
                                    go_wp2
                                    obtain ⟨r0, r1, _, r3⟩ := box2 (box2_set hbx8 (.int .i64 11) (.int .i64 k))
                                    refine bodyPost_ret (v := faultV 11 k) (by simp [results, Try.results13, go_sem, r0, r1, faultV]) rfl ⟨by rw [hP.out, hcc.out], ?_⟩
                                    exact (((hb0.trans (hwb.mono (Nat.le_succ _))).trans (hb5.mono (Nat.le_of_lt g3))).setCell (Nat.le_refl _) _).setCell (Nat.le_refl _) _
                                  · have v28b : ((3 : Int) == bf) = false := beq_false_of_ne v28
                                    have hcc : Hid (cd = 0) := by unfold Hid; rw [hcode.out]; simp [v27, v28]
                                    have hB := Lib.hid (hno.out hcc.out)
                                    have HG := Lib.hid (hgood.out hcc.out)
                                    clear hyes hno hgood hcode
                                    go_wp2
                                    go_roundg (ps.length - (k + 1))
                                    case measure => omega
                                    case rel => exact ⟨k + 1, by omega, by omega, by go_num, hwb, hB, by unfold Hid; rw [hlas.out]; exact HG.out.1⟩
                        | false =>
                          have hcc : Hid (cd = 7) := by unfold Hid; rw [hcode.out]; simp
                          have hP := Lib.hid (hyes.out (by rw [hcc.out]; decide))
                          clear hyes hno hgood hcode
                          go_wp2_with fail
                          refine (At_any _ _ _).mono ?_
                          rintro e w5 ⟨rfl, hb5⟩
                          simp only [faultV]
                          have hbx8 := (hb5.block w.heap.size g3).trans hbox
                          obtain ⟨p0, p1, p2, p3⟩ := box2 hbx8
                          go_wp2
                          obtain ⟨r0, r1, _, r3⟩ := box2 (box2_set hbx8 (.int .i64 7) (.int .i64 k))
                          refine bodyPost_ret (v := faultV 7 k) (by simp [results, Try.results13, go_sem, r0, r1, faultV]) rfl ⟨by rw [hP.out, hcc.out], ?_⟩
                          exact (((hb0.trans (hwb.mono (Nat.le_succ _))).trans (hb5.mono (Nat.le_of_lt g3))).setCell (Nat.le_refl _) _).setCell (Nat.le_refl _) _
                  · as_aux_lemma =>
                      have hk0 := beq_false_of_ne v0
                      have hk2 := beq_false_of_ne v2
                      have hk1 := beq_false_of_ne v1
                      have hk3 := beq_false_of_ne v3
                      have hm0 := bne_true_of_ne v0
                      have hm2 := bne_true_of_ne v2
                      go_wp2
                      go_quiet (fail)
                      have hbx7 := below_drewN hbx3 nq
                      go_upto_region 18 with fail
                      go_cut [13] (fun s13 wx => (∃ c', s13 = .bool c' ∧ Hid (c' = true ↔ (k + 1 < ps.length ∧ nextK ps k = 2))) ∧ wx.heap[wr.heap.size]? = some (.cells #[.int .i64 pk, .string nm, .slice da pn dc] 51) ∧ Below wA.heap.size wA wx)
                      case first =>
                        by_cases hlt2 : k + 1 < ps.length
                        · obtain ⟨b2, off2, da2, dc2, he2, n0, -⟩ := HC.out (k + 1) hlt2
                          simp only [Option.some.injEq, Addr.mk.injEq, and_true] at he2
                          obtain ⟨rfl, rfl⟩ := he2
                          have n1 := (hbw.cell (p := ⟨b, off + (k + 1) * 3, none⟩) (World.block_lt_of_cell? _ _ n0)).trans n0
                          have n2 := (hbA.cell (p := ⟨b, off + (k + 1) * 3, none⟩) (World.block_lt_of_cell? _ _ n1)).trans n1
                          have n3 := (hbx3.cell (p := ⟨b, off + (k + 1) * 3, none⟩) (World.block_lt_of_cell? _ _ n2)).trans n2
                          have hnk := Lib.hid (show nextK ps k = ps[k + 1].k by unfold nextK; simp [List.getD, hlt2])
                          have hlti : ((k : Int) + 1 < (ps.length : Int)) := ni_lt hlt2
                          generalize ps[k + 1].k = nk at *
                          clear n0 n1 n2
                          go_wp2
                          go_meet
                          exact ⟨⟨_, rfl, by unfold Hid; rw [hnk.out]; simp [hlt2]⟩, hbx5, hbx7⟩
                        · have hlti : ¬ ((k : Int) + 1 < (ps.length : Int)) := ni_nlt hlt2
                          go_wp2
                          go_meet
                          exact ⟨⟨_, rfl, by unfold Hid; simp [hlt2]⟩, hbx5, hbx7⟩
                      case rest =>
                        obtain ⟨⟨fo, rfl, hfo⟩, hbx8, hbx9⟩ := hcut
                        clear hbx5 hbx3 y0 y1 y2 y3 y4 hbx7
                        have hbx5 := hbx8
                        have hbx3 := hbx9
                        clear hbx8 hbx9
                        obtain ⟨y0, y1, y2, y3, y4⟩ := box3 hbx5
                        have hwb := hb.trans ((ext_trans hbA hbx3).mono (B' := w.heap.size + 1) (below_box_le hb))
                        have hbox := (hwb.block w.heap.size (Nat.lt_succ_self _)).trans hbx0
                        obtain ⟨g0, g1, g2, g3⟩ := box2 hbox
                        have hcc : Hid (cd = 5) := by unfold Hid; rw [hcode.out]; simp [v0, v1, v2, v3]
                        have hP := Lib.hid (hyes.out (by rw [hcc.out]; decide))
                        clear hyes hno hgood hcode
                        go_wp2_with fail
                        refine (At_any _ _ _).mono ?_
                        rintro e w5 ⟨rfl, hb5⟩
                        simp only [faultV]
                        have hbx8 := (hb5.block w.heap.size g3).trans hbox
                        obtain ⟨p0, p1, p2, p3⟩ := box2 hbx8
                        go_wp2
                        obtain ⟨r0, r1, _, r3⟩ := box2 (box2_set hbx8 (.int .i64 5) (.int .i64 k))
                        refine bodyPost_ret (v := faultV 5 k) (by simp [results, Try.results13, go_sem, r0, r1, faultV]) rfl ⟨by rw [hP.out, hcc.out], ?_⟩
                        exact (((hb0.trans (hwb.mono (Nat.le_succ _))).trans (hb5.mono (Nat.le_of_lt g3))).setCell (Nat.le_refl _) _).setCell (Nat.le_refl _) _
      · have hP := Lib.hid (parF_good (ps := ps) H12.out (hbad.out.trans (badP_end hlt)))
        have hbox := (hb.block w.heap.size (Nat.lt_succ_self _)).trans hbx0
        obtain ⟨q0, q1, q2, q3⟩ := box2 hbox
        clear HC hv
        go_wp2
        obtain ⟨r0, r1, _, r3⟩ := box2 (box2_set hbox (.int .i64 0) (.int .i64 0))
        refine bodyPost_ret (v := faultV 0 0) (by simp [results, Try.results13, go_sem, r0, r1, faultV]) rfl ⟨by rw [hP.out], ?_⟩
        exact ((hb0.trans (hb.mono (by omega))).setCell (Nat.le_refl _) _).setCell (Nat.le_refl _) _
end Go.Proofs.Ytbickehhnkhabaa
