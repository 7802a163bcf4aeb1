/- LineageKeepsOrders: for every list of linearizations the law returns true and leaves its argument alone. No condition. -/
import Derived.Test.YtbickehhnkhabaaRef3
import Derived.Test.YtbickehhnkhabaaKeepSpec
namespace Go.Proofs.Ytbickehhnkhabaa
open Go.ChangeShapes Go.WideShapes Go.ChangeAt Go.RowKit

set_option maxRecDepth 100000 in
set_option maxHeartbeats 4000000 in
theorem KeepLaw_any (v : Value) (B : List (List Int)) (w : World) (hv : IntRows w v B) (hfit : ∀ y ∈ B, ∀ x ∈ y, Fits x) :
    Calls Try.prog 6 #[v] w fun e w' => e = .returned (.bool true) ∧ Below w.heap.size w w' := by
  have h1 := Order_any v B w hv hfit
  obtain ⟨vs, hl, hrow, hi⟩ := id hv
  obtain ⟨a, cap, rfl, hlc, hbig, hc⟩ := hrow
  obtain ⟨i0, hii, hz0, hz1, hz2⟩ := info_parts infoInt
  by_cases hok : (orderF B).2.1 = 0
  · have hpairs := Lib.hid (keep_pairs hok)
    have hheads := Lib.hid (keep_heads hok)
    have hall := Lib.hid (keep_all hok)
    have hagain := Lib.hid (keep_again hok)
    have hLfit : Hid (∀ y ∈ [(orderF B).1], ∀ x ∈ y, Fits x) := by
      intro y hy x hx
      simp at hy
      subst hy
      obtain ⟨z, hz, hxz⟩ := ((orderF_law hok).2.2.2 x).1 hx
      exact hfit z hz x hxz
    obtain ⟨hch, _, h40, hfi⟩ := orderF_ok hok
    obtain ⟨hB8, hBl⟩ := chkF_ok hch
    have HBl := Lib.hid hBl
    rw [hok, hfi] at h1
    clear hfi
    generalize hLL : (orderF B).1 = L at *
    clear hok hch hLL hBl
    have HI := Lib.hid hi
    have HC := Lib.hid hc
    have HL := Lib.hid hl
    clear hi hc
    rw [hl] at h1
    go_enter Try.func6, Try.ntmps6
    go_wp2_with (go_at_call 14; refine h1.mono ?_; rintro e w1 ⟨v1, rfl, hi1, hb1⟩; simp only [faultV])
    have hb2 : Below w.heap.size w (w1.alloc (.cells #[.int .i64 0, .int .i64 0] 27)) := hb1.alloc hb1.size _
    have hi2 := hi1.below (ext_alloc w1 (.cells #[.int .i64 0, .int .i64 0] 27))
    clear h1 hb1 hi1
    generalize (w1.alloc (.cells #[.int .i64 0, .int .i64 0] 27)) = wM at *
    go_loopg [5, 24] B.length (fun q s5 s24 wr => ∃ k : Nat, ∃ all : List Int, k ≤ B.length ∧ B.length - k ≤ q ∧ s24 = .int .i64 k ∧ wr.ownsRow wM.heap.size 3 1 s5 all.length (intVals all) ∧ Below wM.heap.size wM wr ∧ all.length ≤ k * 40 ∧ Hid (all = allF (B.take k)))
    case atStart => exact ⟨0, [], Nat.zero_le _, by omega, rfl, World.ownsRow_nil _ _ _ _, Below.refl _ _, by simp, rfl⟩
    case round =>
      obtain ⟨k, all, hk, hq, rfl, hown, hb, hal, hall1⟩ := hrel
      have hbw := ext_trans hb2 hb
      by_cases hB : k < B.length
      · have hlt : k < vs.length := by have := HL.out; omega
        obtain ⟨b, off, rfl, hcell⟩ := HC.out k hlt
        have hcell' : wr.cell? ⟨b, off + k, none⟩ = some vs[k] := by rw [hbw.cell (World.block_lt_of_cell? _ _ hcell)]; exact hcell
        have hik := (HI.out k hB).below hb2
        obtain ⟨ay, cy, hvy, hly, hmy, hcy⟩ := id hik
        have hpos : 0 < B[k].length := List.length_pos_iff.2 (HBl.out _ (List.getElem_mem hB)).1
        have hl40 : B[k].length ≤ 40 := (HBl.out _ (List.getElem_mem hB)).2
        have hprs := Lib.hid (hpairs.out B[k] (List.getElem_mem hB))
        have HT := Lib.hid (allF_take B k hB)
        have hi2r := hi2.below hb
        have HCY := Lib.hid hcy
        rw [hvy] at hcell'
        generalize hBk : B[k] = y at *
        have HBk := Lib.hid hBk
        clear hcy hBk hcell
        go_wp2
        obtain ⟨wo, hwo⟩ : ∃ wo : World, wo = wr := ⟨_, rfl⟩
        subst hwo
        go_loopg [5, 31] y.length (fun q s5 s31 wi => ∃ i : Nat, ∃ ac : List Int, i ≤ y.length ∧ y.length - i ≤ q ∧ s31 = .int .i64 i ∧ wi.ownsRow wM.heap.size 3 1 s5 ac.length (intVals ac) ∧ Below wM.heap.size wM wi ∧ ac.length ≤ k * 40 + i ∧ Hid (ac = addAll all (y.take i)))
        case atStart => exact ⟨0, all, Nat.zero_le _, by omega, rfl, hown, hb, by omega, rfl⟩
        case round =>
          obtain ⟨i, ac, hi', hqi, rfl, howni, hbi, hali, hac⟩ := hrel
          by_cases hilt : i < y.length
          · have hbwi := ext_trans hb2 hbi
            obtain ⟨b2, o2, rfl, hcy1⟩ := HCY.out i hilt
            have hcy1' : wr.cell? ⟨b2, o2 + i, none⟩ = some (.int .i64 y[i]) := by rw [hbi.cell (World.block_lt_of_cell? _ _ hcy1)]; exact hcy1
            have hsn := addAll_take all y i hilt
            rw [← hac.out] at hsn
            have hih : Ints wr u5 ac := Ints_of_own howni
            have hi2i := hi2.below hbi
            have hhas := HasInt_any u5 ac y[i] wr hih
            have hbef : 0 < i → ∃ z, ∀ W, Below wM.heap.size wM W → W.cell? ⟨b2, o2 + (i - 1), none⟩ = some (.int .i64 z) ∧ Calls Try.prog 11 #[v1, .int .i64 z, .int .i64 y[i]] W fun e w' => e = .returned (.bool true) ∧ W = w' := by
              intro hp
              obtain ⟨b3, o3, e3, hcy2⟩ := HCY.out (i - 1) (by omega)
              simp only [Option.some.injEq, Addr.mk.injEq, and_true] at e3
              obtain ⟨rfl, rfl⟩ := e3
              refine ⟨y[i - 1], fun W hW => ⟨by rw [hW.cell (World.block_lt_of_cell? _ _ hcy2)]; exact hcy2, ?_⟩⟩
              have hp1 := hprs.out (i - 1) (by omega)
              have e1 : y[i - 1 + 1]'(by omega) = y[i] := by congr 1; omega
              rw [e1] at hp1
              have h3 := Before_any v1 L y[i - 1] y[i] W (hi2.below hW)
              rw [hp1] at h3
              exact h3
            have hc40 : ac.length ≤ 1000 := by omega
            have HBEF := Lib.hid hbef
            clear hbef
            generalize y[i] = x at *
            clear hcy1 hprs hvy
            cases hq2 : hasI ac x with
            | true =>
              rw [hq2] at hhas
              have hs2 : addOne ac x = ac := by unfold addOne; rw [hq2]; rfl
              rw [hs2] at hsn
              have HS := Lib.hid hsn
              clear hq2 hs2 hsn
              by_cases hi0 : 0 < i
              · obtain ⟨z, hbef⟩ := HBEF.out hi0
                obtain ⟨hz, hcall⟩ := hbef wr hbi
                have hi0' : (0 : Int) < (i : Int) := by omega
                have hpr : ((i : Int) - 1).toNat = i - 1 := by omega
                clear hbef
                go_wp2_with (first | (go_at_call 17; refine hhas.mono ?_; rintro e w5 ⟨rfl, rfl⟩) | (go_at_call 11; refine hcall.mono ?_; rintro e w5 ⟨rfl, rfl⟩))
                go_roundg (y.length - (i + 1))
                case measure => omega
                case rel => exact ⟨i + 1, ac, by omega, by omega, by go_num, howni, hbi, by omega, HS.out.symm⟩
              · have hi0' : ¬ (0 : Int) < (i : Int) := by omega
                go_wp2_with (first | (go_at_call 17; refine hhas.mono ?_; rintro e w5 ⟨rfl, rfl⟩))
                go_roundg (y.length - (i + 1))
                case measure => omega
                case rel => exact ⟨i + 1, ac, by omega, by omega, by go_num, howni, hbi, by omega, HS.out.symm⟩
            | false =>
              rw [hq2] at hhas
              have hs2 : addOne ac x = ac ++ [x] := by unfold addOne; rw [hq2]; rfl
              rw [hs2] at hsn
              have HS := Lib.hid hsn
              clear hq2 hs2 hsn
              go_wp2_with (first | (go_at_call 17; refine hhas.mono ?_; rintro e w5 ⟨rfl, rfl⟩) | (at_builtin; refine wpList_append_own _ rfl _ _ 22 rfl wM.heap.size 3 i0 (.int .i64 0) 1 8 Try.underlying22 hii hz0 hz1 hz2 rfl (by decide) _ _ _ rfl (howni.alloc _) ⟨wr.heap.size, 0, none⟩ 1 1 [.int .i64 x] rfl rfl ?c1 ?c2 ?c3 ?c4 ?c5 ?_))
              case c1 => exact cell_one_new _ _ _
              case c2 => simp [Value.oneCell']
              case c3 => rw [maxLen_eq']; omega
              case c4 => omega
              case c5 => have := hbi.size; simp; omega
              intro v' w5 hown5 hgr5 _
              have hb5 : Below wM.heap.size wM w5 := (hbi.alloc hbi.size _).grown hgr5 (by have := hbi.size; simp; omega) (fun q hq => (howni.lt q hq).1)
              have hown5' : w5.ownsRow wM.heap.size 3 1 v' (ac ++ [x]).length (intVals (ac ++ [x])) := own_cast hown5 (by simp) (by simp [intVals])
              have hlen5 : (ac ++ [x]).length = ac.length + 1 := by simp
              generalize ac ++ [x] = ac2 at *
              have HL5 := Lib.hid hlen5
              clear hown5 hgr5 hlen5
              by_cases hi0 : 0 < i
              · obtain ⟨z, hbef⟩ := HBEF.out hi0
                obtain ⟨hz, hcall⟩ := hbef w5 hb5
                have hi0' : (0 : Int) < (i : Int) := by omega
                have hpr : ((i : Int) - 1).toNat = i - 1 := by omega
                clear hbef
                go_wp2_with (go_at_call 11; refine hcall.mono ?_; rintro e w6 ⟨rfl, rfl⟩)
                go_roundg (y.length - (i + 1))
                case measure => omega
                case rel => exact ⟨i + 1, ac2, by omega, by omega, by go_num, hown5', hb5, by have := HL5.out; omega, HS.out.symm⟩
              · have hi0' : ¬ (0 : Int) < (i : Int) := by omega
                go_wp2
                go_roundg (y.length - (i + 1))
                case measure => omega
                case rel => exact ⟨i + 1, ac2, by omega, by omega, by go_num, hown5', hb5, by have := HL5.out; omega, HS.out.symm⟩
          · have hac2 : ac = allF (B.take (k + 1)) := by rw [hac.out, List.take_of_length_le (by omega), hall1.out, HT.out]
            have HAC := Lib.hid hac2
            have hbwi := ext_trans hb2 hbi
            have hi2i := hi2.below hbi
            obtain ⟨b2, o2, rfl, hcy1⟩ := HCY.out 0 hpos
            rw [headI_getElem _ hpos] at hcy1
            have hcy1' : wr.cell? ⟨b2, o2, none⟩ = some (.int .i64 (headI y)) := by rw [hbi.cell (p := ⟨b2, o2, none⟩) (World.block_lt_of_cell? _ _ hcy1)]; exact hcy1
            have hheadk := hheads.out
            have hal2 : ac.length ≤ (k + 1) * 40 := by omega
            clear hac2 hac hvy hcy1 hown hbw hi2r hi'
            by_cases hk0 : 0 < k
            · obtain ⟨b3, o3, e3, hcell3⟩ := HC.out (k - 1) (by omega)
              simp only [Option.some.injEq, Addr.mk.injEq, and_true] at e3
              obtain ⟨rfl, rfl⟩ := e3
              have hB1 : k - 1 < B.length := by omega
              have hcell3' : wr.cell? ⟨b, off + (k - 1), none⟩ = some (vs[k - 1]'(by omega)) := by rw [hbwi.cell (World.block_lt_of_cell? _ _ hcell3)]; exact hcell3
              have hpos1 : 0 < B[k - 1].length := List.length_pos_iff.2 (HBl.out _ (List.getElem_mem hB1)).1
              obtain ⟨ax, cx, hvx, hlx, hmx, hcx⟩ := (HI.out (k - 1) hB1).below hbwi
              obtain ⟨b4, o4, rfl, hcx0⟩ := hcx 0 hpos1
              rw [headI_getElem _ hpos1] at hcx0
              have hcx1 : wr.cell? ⟨b4, o4, none⟩ = some (.int .i64 (headI B[k - 1])) := hcx0
              have hbb := hheadk (k - 1) (by omega)
              have e1 : B[k - 1 + 1]'(by omega) = y := by rw [← HBk.out]; congr 1; omega
              rw [e1] at hbb
              have h3 := fun W (h : Ints W v1 L) => Before_any v1 L (headI B[k - 1]) (headI y) W h
              simp only [hbb] at h3
              rw [hvx] at hcell3'
              clear hcell3 hcx hcx0 hvx hheadk hbb e1
              generalize headI B[k - 1] = z at *
              generalize B[k - 1].length = lz at *
              generalize headI y = x at *
              have hk0' : decide ((0 : Int) < (k : Int)) = true := by simp; omega
              have hpr : ((k : Int) - 1).toNat = k - 1 := by omega
              have h3q := fun W (h : Ints W v1 L) => (h3 W h).mono fun _ _ (h : _ ∧ _) => (⟨h.1, h.2.symm⟩ : _ ∧ _)
              clear h3
              go_wp2
              go_quiet ((go_at_call 11; exact Calls.quiet_of_same (h3q _ (hi2i.below (below_drewN (Below.refl _ _) _)))))
              go_wp2
              go_roundg (B.length - (k + 1))
              case measure => omega
              case rel => exact ⟨k + 1, ac, by omega, by omega, by go_num, own_below howni (below_drewN (Below.refl _ _) _), below_drewN hbi _, hal2, HAC⟩
            · have hk0' : decide ((0 : Int) < (k : Int)) = false := by simp; omega
              go_wp2
              go_quiet (fail)
              go_wp2
              go_roundg (B.length - (k + 1))
              case measure => omega
              case rel => exact ⟨k + 1, ac, by omega, by omega, by go_num, own_below howni (below_drewN (Below.refl _ _) _), below_drewN hbi _, hal2, HAC⟩
      · have hkB : k = B.length := by omega
        have hAll : Hid (all = allF B) := by unfold Hid; rw [hall1.out, hkB, List.take_of_length_le (Nat.le_refl _)]
        clear hall1 hkB hq hk
        have hih : Ints wr u5 all := Ints_of_own hown
        have hi2r := hi2.below hb
        obtain ⟨aL, cL, rfl, hlL, hmL, hcL⟩ := id hi2r
        have HCL := Lib.hid hcL
        clear hcL
        go_wp2
        go_loopg [78] L.length (fun q s78 wi => ∃ i : Nat, i ≤ L.length ∧ L.length - i ≤ q ∧ s78 = .int .i64 i ∧ wi = wr)
        case atStart => exact ⟨0, Nat.zero_le _, by omega, rfl, rfl⟩
        case round =>
          obtain ⟨i, hi', hqi, rfl, rfl⟩ := hrel
          by_cases hilt : i < L.length
          · obtain ⟨b2, o2, rfl, hcx⟩ := HCL.out i hilt
            have hhas := HasInt_any _ all L[i] _ hih
            rw [hAll.out, hall.out.1 _ (List.getElem_mem hilt)] at hhas
            generalize L[i] = x at *
            go_wp2_with (go_at_call 17; refine hhas.mono ?_; rintro e w5 ⟨rfl, rfl⟩)
            go_roundg (L.length - (i + 1))
            case measure => omega
            case rel => exact ⟨i + 1, by omega, by omega, by go_num, rfl⟩
          · have hlen2 : L.length = all.length := by rw [hAll.out]; exact hall.out.2
            have hbw2 := ext_trans hb2 hb
            obtain ⟨a5, c5, rfl⟩ := own_isSlice hown
            by_cases hL0 : L.length = 0
            · clear hall hagain
              have hA0 : all.length = 0 := by omega
              go_wp2
              go_ret
              exact ⟨rfl, hbw2⟩
            · have hag := hagain.out (fun h => hL0 (by rw [h]; rfl))
              have hi3 : Ints wr (.slice aL all.length cL) L := by rw [← hlen2]; exact hi2r
              have hord : ∀ W N t, Ints W (.slice aL all.length cL) L → W.heap[N]? = some (.cells #[.slice aL all.length cL] t (0, 0)) → Calls Try.prog 14 #[.slice (some ⟨N, 0, none⟩) 1 1] W fun e w' => ∃ u, e = .returned (.tuple #[u, faultV 0 0]) ∧ Ints w' u L ∧ Below W.heap.size W w' := by
                intro W N t hI hN
                have h := Order_any (.slice (some ⟨N, 0, none⟩) 1 1) [L] W ⟨[.slice aL all.length cL], rfl, ⟨_, _, rfl, by simp, by simp, fun j hj => ⟨N, 0, rfl, by simp at hj; subst hj; simpa using (box1 hN).1⟩⟩, fun j hj => by simp at hj; subst hj; exact hI⟩ hLfit.out
                rw [hag] at h
                exact h
              have hA0 : ¬ all.length = 0 := by omega
              have HORD := Lib.hid hord
              have heq := fun u W (h1 : Ints W u L) (h2 : Ints W (.slice aL all.length cL) L) => RefInts_any u _ L L W h1 h2
              simp only [decide_true] at heq
              have HEQ := Lib.hid heq
              clear hall hagain hag hord heq
              go_wp2_with (go_at_call 14; refine (HORD.out _ _ _ (hi3.below (ext_alloc _ _)) (heap_new _ _)).mono ?_; rintro e w6 ⟨u6, rfl, hi6, hb6⟩; simp only [faultV])
              have hbA := (ext_alloc wr (.cells #[.slice aL all.length cL] 22)).trans (hb6.mono (by simp))
              have hi6' := hi6.below (ext_alloc w6 (.cells #[.int .i64 0, .int .i64 0] 27))
              have hi7' := (hi3.below hbA).below (ext_alloc w6 (.cells #[.int .i64 0, .int .i64 0] 27))
              go_wp2_with (go_at_call 16; refine (HEQ.out _ _ hi6' hi7').mono ?_; rintro e w7 ⟨rfl, hb7⟩)
              go_ret
              exact ⟨rfl, (ext_trans hbw2 hbA).trans ((ext_alloc w6 _).trans (hb7.mono (by simp)) |>.mono (by have h1 := hbw2.size; have h2 := hbA.size; simp at h1 h2 ⊢; omega))⟩
  · have hok' : ((orderF B).2.1 != 0) = true := by rw [bne_iff_ne]; exact hok
    rw [hl] at h1
    generalize (orderF B).2.1 = fc at *
    generalize (orderF B).2.2 = fi at *
    generalize (orderF B).1 = L at *
    clear hok
    go_enter Try.func6, Try.ntmps6
    go_wp2_with (go_at_call 14; refine h1.mono ?_; rintro e w1 ⟨v1, rfl, hi1, hb1⟩; simp only [faultV])
    go_ret
    exact ⟨rfl, hb1.alloc hb1.size _⟩
end Go.Proofs.Ytbickehhnkhabaa
