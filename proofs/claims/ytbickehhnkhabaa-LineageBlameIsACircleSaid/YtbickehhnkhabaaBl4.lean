/- Walks: the reference's Blamed. -/
import Derived.Test.YtbickehhnkhabaaBl3
import Derived.Test.YtbickehhnkhabaaRef3
namespace Go.Proofs.Ytbickehhnkhabaa
open Go.RowKit

set_option maxRecDepth 100000 in
set_option maxHeartbeats 4000000 in
theorem Blamed_any (v : Value) (B : List (List Int)) (w : World) (hv : IntRows w v B) :
    Calls Try.prog 28 #[v] w fun e w' => ∃ v1, e = .returned (.tuple #[v1, faultV (blameF B).2.1 (blameF B).2.2]) ∧ Ints w' v1 (blameF B).1 ∧ Below w.heap.size w w' := by
  obtain ⟨av, cv, rfl⟩ := hv.len
  have hchk := OrdersFault_any _ B (w.alloc (.cells #[.int .i64 0, .int .i64 0] 27)) (hv.below (ext_alloc _ _))
  generalize hcf : chkF B = cf at *
  by_cases c0 : cf.1 = 0
  · have hrest := Lib.hid (rest_ok (B := B) (by rw [hcf]; exact c0))
    obtain ⟨hB8, hBl⟩ := chkF_ok (B := B) (by rw [hcf]; exact c0)
    have hone : ∀ y ∈ B, y ≠ [] := fun y hy => (hBl y hy).1
    have ht1 : total B ≤ 1000 := by
      have h1 := total_le B 40 (fun y hy => (hBl y hy).2)
      omega
    obtain ⟨fc, fi⟩ := cf
    simp only at c0 hchk
    subst c0
    have hR : blameF B = if (mergedF B).2.length = 0 then ([], 12, -1) else (turnedF (circF (mergedF B).2).reverse, 0, 0) := by unfold blameF; rw [hcf]; rfl
    have HR := Lib.hid hR
    clear hR hcf
    go_enter Try.func28, Try.ntmps28
    go_wp2_with (go_at_call 40; refine hchk.mono ?_; rintro e w1 ⟨rfl, hb1⟩; simp only [faultV]; have hbx1 := (hb1.block w.heap.size (by simp)).trans (heap_new w _); obtain ⟨g0, g1, g2, g3⟩ := box2 hbx1)
    have hbx2 := box_alloc hbx1 (.cells #[.int .i64 0, .int .i64 fi] 27)
    have hbw2 : Below w.heap.size w (w1.alloc (.cells #[.int .i64 0, .int .i64 fi] 27)) := ((ext_alloc w _).trans (hb1.mono (by simp))).alloc (by omega) _
    clear hchk hbx1 hb1 g0 g1 g2
    have hmerged := Merged_any _ B _ (hv.below hbw2) hone hB8 ht1
    have hs2 : w.heap.size < (w1.alloc (.cells #[.int .i64 0, .int .i64 fi] 27)).heap.size := by simp; omega
    refine hmerged.mono ?_
    clear hmerged
    generalize (w1.alloc (.cells #[.int .i64 0, .int .i64 fi] 27)) = w2 at *
    have hMd : mergedF B = mergeF (total (B ++ [B.map headI]) + 1) [] (ne (B ++ [B.map headI])) := rfl
    rw [← hMd]
    rintro e w4 ⟨v1, v2, rfl, hi1, hi2, hb4, hob⟩
    clear hob
    have hbx4 := (hb4.block w.heap.size hs2).trans hbx2
    have hbw4 := ext_trans hbw2 hb4
    obtain ⟨a1, k1, rfl⟩ := hi1.len
    clear hMd hb4 hbx2 hbw2 hi1
    generalize (mergedF B).1.length = n1 at *
    have hRe := Lib.hid hrest.out.1
    have hcnt := hrest.out.2.1
    clear hrest hone ht1 hBl
    generalize (mergedF B).2 = R at *
    obtain ⟨a2, k2, rfl⟩ := hi2.len
    obtain ⟨g0, g1, g2, g4⟩ := box2 hbx4
    have hRo := HR.out
    have HR2 := Lib.hid hRo
    clear hRo HR
    by_cases c1 : R.length = 0
    · have HC1 := Lib.hid c1
      rw [c1]
      go_wp2_with (go_at_call 34; refine (At_any _ _ _).mono ?_; rintro e w5 ⟨rfl, hb5⟩; simp only [faultV]; have hbx5 := (hb5.block w.heap.size g4).trans hbx4; obtain ⟨p0, p1, p2, p3⟩ := box2 hbx5)
      obtain ⟨q0, q1, _, q3⟩ := box2 (box2_set hbx5 (.int .i64 12) (.int .i64 (-1)))
      refine bodyPost_ret (v := .tuple #[.slice none 0 0, faultV 12 (-1)]) (by simp [results, Try.results28, go_sem, q0, q1, faultV]) rfl ⟨_, by rw [HR2.out, if_pos HC1.out], by rw [HR2.out, if_pos HC1.out]; exact RowOf.nil _ _, ?_⟩
      exact ((ext_trans hbw4 hb5).setCell (Nat.le_refl _) _).setCell (Nat.le_refl _) _
    · have c1' : ((R.length : Int) == 0) = false := by simp; exact List.length_pos_iff.1 (by omega)
      have hRpos : 0 < R.length := by omega
      have HC1 := Lib.hid c1
      clear c1
      obtain ⟨vs, hl, hrow, hi⟩ := id hi2
      obtain ⟨ar, cr, hsr, hlr, hmr, hcr⟩ := hrow
      simp only [Value.slice.injEq] at hsr
      obtain ⟨rfl, -, rfl⟩ := hsr
      obtain ⟨br, or, rfl, hcell0⟩ := hcr 0 (by omega)
      have hcell0' : w4.cell? ⟨br, or, none⟩ = some (vs[0]'(by omega)) := hcell0
      obtain ⟨ay, cy, hvy, hly, hmy, hcy⟩ := hi 0 hRpos
      have hp0 : 0 < R[0].length := List.length_pos_iff.2 (hRe.out.ne _ (List.getElem_mem _))
      obtain ⟨by0, oy0, rfl, hcy0⟩ := hcy 0 hp0
      rw [headI_getElem _ hp0] at hcy0
      have hcy0' : w4.cell? ⟨by0, oy0, none⟩ = some (.int .i64 (headI R[0])) := hcy0
      rw [hvy] at hcell0'
      have hstart := Lib.hid (Way.nil hRpos)
      have hhd : headI (R.headD []) = headI R[0] := by
        cases R with
        | nil => simp at hRpos
        | cons x R => rfl
      have hcirc : circF R = (wayF R (R.length + 1) [] (headI R[0])).1.drop (idxFrom (wayF R (R.length + 1) [] (headI R[0])).2 (wayF R (R.length + 1) [] (headI R[0])).1 0).toNat := by unfold circF; rw [hhd]
      generalize hwf : wayF R (R.length + 1) [] (headI R[0]) = WF at *
      have HWF := Lib.hid hwf
      have HCI := Lib.hid hcirc
      have HI := Lib.hid hi
      have HCR := Lib.hid hcr
      have HL := Lib.hid hl
      clear hwf hcirc hi hcr hcell0 hcy hcy0 hvy hhd
      generalize headI R[0] = n0 at *
      generalize R[0].length = ly at *
      obtain ⟨i0, hii, hz0, hz1, hz2⟩ := info_parts infoInt
      go_wp2
      go_loopg [7, 8] (R.length + 1) (fun q s7 s8 wr => ∃ way : List Int, ∃ n : Int, way.length + q = R.length + 1 ∧ s8 = .int .i64 n ∧ wr.ownsRow w4.heap.size 3 1 s7 way.length (intVals way) ∧
        Below w4.heap.size w4 wr ∧ Hid (Way R way n) ∧ Hid (wayF R q way n = WF))
      case atStart => exact ⟨[], n0, by simp, rfl, World.ownsRow_nil _ _ _ _, Below.refl _ _, hstart, HWF⟩
      case round =>
        obtain ⟨way, n, hq, rfl, hown, hb, hway, hwfq⟩ := hrel
        have hwl := hway.out.le
        have hhas := HasInt_any u7 way n wr (Ints_of_own hown)
        have hin := Index_any u7 way n wr (Ints_of_own hown)
        clear hcell0' hcy0' hstart hp0 hly hmy
        cases hh : hasI way n with
        | true =>
          rw [hh] at hhas
          have hmem : n ∈ way := by rw [hasI_iff] at hh; simpa using hh
          obtain ⟨k, hk, e1, e2, -⟩ := idxFrom_get n way 0 hmem
          rw [Nat.zero_add] at e1
          rw [e1] at hin
          have hC : circF R = way.drop k := by
            rw [HCI.out, ← hwfq.out, wayF_stop R _ hh]
            simp only [e1, Int.toNat_natCast]
          have hcir := Lib.hid (hway.out.circle hk e2)
          obtain ⟨g7, c7, rfl, hg7⟩ := own_form hown (by omega)
          obtain ⟨a7', c7', e7, hc7, hc7b, -⟩ := Ints_of_own hown
          simp only [Value.slice.injEq, true_and] at e7
          obtain ⟨-, rfl⟩ := e7
          clear a7'
          have hsl := slice_from g7 way.length c7 k hk hc7
          have hci := Ints.from (Ints_of_own hown) (k := k) (by omega)
          have hB2 := HR2.out
          rw [if_neg HC1.out, hC] at hB2
          have HB2 := Lib.hid hB2
          have hcl : (way.drop k).length = way.length - k := by simp
          have hcl2 : (way.drop k).length ≤ 1000 := by omega
          clear hh hmem e1 e2 hwfq HWF HCI hway hC hB2 HR2 hown hq HI HCR hi2 hl HL
          rw [← hcl] at hci hsl
          clear hcl
          generalize way.drop k = c at *
          generalize c7 - k = m2 at *
          clear hk hwl hc7 hc7b
          generalize way.length = wl at *
          obtain ⟨_, _, ec, hcc1, hcc2, hcc⟩ := id hci
          simp only [Value.slice.injEq, true_and] at ec
          obtain ⟨rfl, rfl⟩ := ec
          have hcc' : ∀ i (h : i < c.length), wr.cell? ⟨g7, k + i, none⟩ = some (.int .i64 c[i]) := by
            intro i h
            obtain ⟨b, o, e, hh⟩ := hcc i h
            simp only [Option.some.injEq, Addr.mk.injEq, and_true] at e
            obtain ⟨rfl, rfl⟩ := e
            exact hh
          have HCC := Lib.hid hcc'
          have hblk : ∀ W, Below wr.heap.size wr W → W.heap[w.heap.size]? = some (.cells #[.int .i64 0, .int .i64 0] 27 (0, 0)) := by
            intro W h1
            have := hb.size
            refine (h1.block w.heap.size (by omega)).trans ?_
            exact (hb.block w.heap.size g4).trans hbx4
          have HBLK := Lib.hid hblk
          have hbwr := ext_trans hbw4 hb
          have hws : w.heap.size < wr.heap.size := by have := hb.size; omega
          have hcpos := hcir.out.pos
          have hcnd := Lib.hid hcir.out.nd
          clear hcc hcc' hblk hci hb hcir hcc1 hcc2 g0 g1 g2 g4 hbx4 hbw4
          obtain ⟨wo, hwo⟩ : ∃ wo : World, wo = wr := ⟨_, rfl⟩
          subst hwo
          have c2' : ¬ ((c.length : Int) = 0) := by omega
          go_wp2_with (first | (go_at_call 17; refine hhas.mono ?_; rintro e w5 ⟨rfl, rfl⟩) | (go_at_call 10; refine hin.mono ?_; rintro e w5 ⟨rfl, rfl⟩))
          go_loopg [11, 64] c.length (fun q s11 s64 wi => ∃ j m : Nat, j ≤ c.length ∧ c.length - j ≤ q ∧ s64 = .int .i64 j ∧ s11 = .int .i64 m ∧ m < c.length ∧ Below wo.heap.size wo wi ∧ Hid (∀ i (h : i < c.length) (hm : m < c.length), i < j → c[m] ≤ c[i]))
          case atStart => exact ⟨0, 0, Nat.zero_le _, by omega, rfl, rfl, hcpos, Below.refl _ _, fun i _ _ h => absurd h (by omega)⟩
          case round =>
            obtain ⟨j, m, hj, hqj, rfl, rfl, hm, hbi, hall⟩ := hrel
            by_cases hlt : j < c.length
            · have cj : wr.cell? ⟨g7, k + j, none⟩ = some (.int .i64 c[j]) := by rw [hbi.cell (World.block_lt_of_cell? _ _ (HCC.out j hlt))]; exact HCC.out j hlt
              have cm : wr.cell? ⟨g7, k + m, none⟩ = some (.int .i64 c[m]) := by rw [hbi.cell (World.block_lt_of_cell? _ _ (HCC.out m hm))]; exact HCC.out m hm
              obtain ⟨x, hx⟩ : ∃ x, c[j] = x := ⟨_, rfl⟩
              obtain ⟨y, hy⟩ : ∃ y, c[m] = y := ⟨_, rfl⟩
              rw [hx] at cj
              rw [hy] at cm
              have HX := Lib.hid hx
              have HY := Lib.hid hy
              clear hx hy
              by_cases hxy : x < y
              · have hd : decide (x < y) = true := by simpa using hxy
                have H2 : Hid (∀ i (h : i < c.length) (hm : j < c.length), i < j + 1 → c[j] ≤ c[i]) := fun i h _ hi => by
                  rcases Nat.lt_or_ge i j with h1 | h1
                  · have h2 := hall.out i h hm h1
                    have h3 := HX.out
                    have h4 := HY.out
                    omega
                  · have : i = j := by omega
                    subst this; exact Int.le_refl _
                clear hxy
                go_wp2
                go_quiet (fail)
                go_wp2
                go_roundg (c.length - (j + 1))
                case measure => omega
                case rel => exact ⟨j + 1, j, by omega, by omega, by go_num, rfl, hlt, below_drewN hbi _, H2⟩
              · have hd : decide (x < y) = false := by simpa using hxy
                have H2 : Hid (∀ i (h : i < c.length) (hm : m < c.length), i < j + 1 → c[m] ≤ c[i]) := fun i h _ hi => by
                  rcases Nat.lt_or_ge i j with h1 | h1
                  · exact hall.out i h hm h1
                  · have : i = j := by omega
                    subst this
                    have h3 := HX.out
                    have h4 := HY.out
                    omega
                clear hxy
                go_wp2
                go_quiet (fail)
                go_wp2
                go_roundg (c.length - (j + 1))
                case measure => omega
                case rel => exact ⟨j + 1, m, by omega, by omega, by go_num, rfl, hm, below_drewN hbi _, H2⟩
            · have hcirc := circ_eq hcnd.out hm (fun i h => hall.out i h hm (by omega))
              have HO : Hid (blameF B = (outF c m, 0, 0)) := by unfold Hid; rw [HB2.out, hcirc]
              clear hcirc hall
              have hol : (outF c m).length = c.length := by simp [outF]
              have hoe : Hid (∀ j (h : j < c.length), (outF c m)[j]? = some (c[(m + c.length - j) % c.length]'(Nat.mod_lt _ (by omega)))) := fun j h => by
                rw [List.getElem?_eq_getElem (by omega)]
                simp only [outF, List.getElem_map, List.getElem_range]
                rw [List.getD_eq_getElem?_getD, List.getElem?_eq_getElem (Nat.mod_lt _ (by omega)), Option.getD_some]
              have HOL := Lib.hid hol
              clear hol hqj hj HB2
              obtain ⟨wp, hwp⟩ : ∃ wp : World, wp = wr := ⟨_, rfl⟩
              subst hwp
              go_wp2
              clear hlt
              go_loopg [13, 80] c.length (fun q s13 s80 wi => ∃ j : Nat, j ≤ c.length ∧ c.length - j ≤ q ∧ s80 = .int .i64 j ∧ wi.ownsRow wp.heap.size 3 1 s13 j (intVals ((outF c m).take j)) ∧ Below wp.heap.size wp wi)
              case atStart => exact ⟨0, Nat.zero_le _, by omega, rfl, World.ownsRow_nil _ _ _ _, Below.refl _ _⟩
              case round =>
                obtain ⟨j2, hj2, hqj2, rfl, hown, hbj⟩ := hrel
                have hbo := ext_trans hbi hbj
                by_cases hlt : j2 < c.length
                · have he : (m + c.length - j2) % c.length < c.length := Nat.mod_lt _ (by omega)
                  have hx := hoe.out j2 hlt
                  have ce := HCC.out _ he
                  rw [← hbo.cell (World.block_lt_of_cell? _ _ ce)] at ce
                  obtain ⟨x, hxx⟩ : ∃ x, c[(m + c.length - j2) % c.length] = x := ⟨_, rfl⟩
                  rw [hxx] at ce hx
                  have HTS : Hid ((outF c m).take (j2 + 1) = (outF c m).take j2 ++ [x]) := by unfold Hid; rw [List.take_add_one, hx]; rfl
                  clear hx hxx
                  obtain ⟨e, hee⟩ : ∃ e, (m + c.length - j2) % c.length = e := ⟨_, rfl⟩
                  rw [hee] at he ce
                  have HEE := Lib.hid hee
                  clear hee
                  have hmod : ((m : Int) - (j2 : Int)) % (c.length : Int) = (e : Int) := by
                    rw [← HEE.out, Int.natCast_emod, show ((m + c.length - j2 : Nat) : Int) = (m : Int) - j2 + c.length by omega, Int.add_emod_right]
                  go_wp2_with (at_builtin; refine wpList_append_own _ rfl _ _ 22 rfl wp.heap.size 3 i0 (.int .i64 0) 1 8 Try.underlying22 hii hz0 hz1 hz2 rfl (by decide) _ _ _ rfl (hown.alloc _) ⟨wr.heap.size, 0, none⟩ 1 1 [.int .i64 x] rfl rfl ?c1 ?c2 ?c3 ?c4 ?c5 ?_)
                  case c1 => exact cell_one_new _ _ _
                  case c2 => simp [Value.oneCell']
                  case c3 => rw [maxLen_eq']; omega
                  case c4 => omega
                  case c5 => have := hbj.size; simp; omega
                  intro v' w5 hown5 hgr5 _
                  have hb5 : Below wp.heap.size wp w5 := (hbj.alloc hbj.size _).grown hgr5 (by have := hbj.size; simp; omega) (fun q hq => (hown.lt q hq).1)
                  have hown5' : w5.ownsRow wp.heap.size 3 1 v' (j2 + 1) (intVals ((outF c m).take (j2 + 1))) := own_cast hown5 rfl (by rw [HTS.out]; simp [intVals])
                  clear hown hown5 hgr5
                  go_wp2
                  go_roundg (c.length - (j2 + 1))
                  case measure => omega
                  case rel => exact ⟨j2 + 1, by omega, by omega, by go_num, hown5', hb5⟩
                · have hj3 : j2 = c.length := by omega
                  have hri := hown
                  rw [hj3] at hri
                  have hob13 : u13.ownBlock ≠ some w.heap.size := fun e => by
                    have h1 := (hown.lt _ e).1
                    have h2 := hbi.size
                    omega
                  have hri2 : Ints wr u13 (outF c m) := by
                    refine Ints_of_own (own_cast hri HOL.out.symm ?_)
                    rw [List.take_of_length_le (by rw [HOL.out]; exact Nat.le_refl _)]; rfl
                  obtain ⟨a9, c9, rfl⟩ := own_isSlice hown
                  have hbx6 := HBLK.out wr hbo
                  obtain ⟨y0, y1, y2, y3⟩ := box2 hbx6
                  clear hown hri hj3
                  have HRI := Lib.hid hri2
                  clear hri2
                  go_wp2
                  obtain ⟨q0, q1, _, q3⟩ := box2 (box2_set hbx6 (.int .i64 0) (.int .i64 0))
                  have hgr : wr.grownBy ((wr.setCell ⟨w.heap.size, 0, none⟩ (.int .i64 0)).setCell ⟨w.heap.size, 1, none⟩ (.int .i64 0)) (some w.heap.size) :=
                    ⟨rfl, rfl, rfl, by simp, fun k _ hk => by rw [Below.heap_setCell _ _ _ _ (fun e => hk (by rw [e])), Below.heap_setCell _ _ _ _ (fun e => hk (by rw [e]))]⟩
                  refine bodyPost_ret (v := .tuple #[.slice a9 j2 c9, faultV 0 0]) (by simp [results, Try.results28, go_sem, q0, q1, faultV]) rfl ⟨_, by rw [HO.out], ?_, ?_⟩
                  · rw [HO.out]
                    exact HRI.out.grown hgr (.inl hob13)
                  · exact ((ext_trans hbwr hbo).setCell (Nat.le_refl _) _).setCell (Nat.le_refl _) _
        | false =>
          rw [hh] at hhas
          obtain ⟨q', rfl⟩ : ∃ q', gk = q' + 1 := ⟨gk - 1, by omega⟩
          have hnm : n ∉ way := by rw [hasI_iff] at hh; simpa using hh
          have hway2 := Lib.hid (hway.out.snoc hRe.out hnm)
          have hwf2 := hwfq.out
          rw [wayF_go R q' hh] at hwf2
          have HWF2 := Lib.hid hwf2
          have hmat := Lib.hid hway.out.mat
          have hlen5 : (way ++ [n]).length = way.length + 1 := by simp
          clear hh hwf2 hnm hin
          obtain ⟨wo, hwo⟩ : ∃ wo : World, wo = wr := ⟨_, rfl⟩
          subst hwo
          go_wp2_with (first | (go_at_call 17; refine hhas.mono ?_; rintro e w5 ⟨rfl, rfl⟩) | (at_builtin; refine wpList_append_own _ rfl _ _ 22 rfl w4.heap.size 3 i0 (.int .i64 0) 1 8 Try.underlying22 hii hz0 hz1 hz2 rfl (by decide) _ _ _ rfl (hown.alloc _) ⟨wo.heap.size, 0, none⟩ 1 1 [.int .i64 n] rfl rfl ?c1 ?c2 ?c3 ?c4 ?c5 ?_))
          case c1 => exact cell_one_new _ _ _
          case c2 => simp [Value.oneCell']
          case c3 => rw [maxLen_eq']; omega
          case c4 => omega
          case c5 => have := hb.size; simp; omega
          intro v' w5 hown5 hgr5 _
          have hb5 : Below w4.heap.size w4 w5 := (hb.alloc hb.size _).grown hgr5 (by have := hb.size; simp; omega) (fun q hq => (hown.lt q hq).1)
          have hown5' : w5.ownsRow w4.heap.size 3 1 v' (way ++ [n]).length (intVals (way ++ [n])) := own_cast hown5 (by simp) (by simp [intVals])
          have HL5 := Lib.hid hlen5
          clear hown hown5 hgr5 hb hlen5 hhas
          generalize way ++ [n] = way2 at *
          go_wp2
          go_loopg [8, 45] R.length (fun q s8 s45 wi => ∃ j : Nat, j ≤ R.length ∧ R.length - j ≤ q ∧ s45 = .int .i64 j ∧ s8 = .int .i64 n ∧ wi = w5 ∧ Hid (∀ i (h : i < R.length), i < j → hasI R[i].tail n = false))
          case atStart => exact ⟨0, Nat.zero_le _, by omega, rfl, rfl, rfl, fun i _ h => absurd h (by omega)⟩
          case round =>
            obtain ⟨j, hj, hqj, rfl, rfl, rfl, hall⟩ := hrel
            by_cases hlt : j < R.length
            · have hltv : j < vs.length := by omega
              obtain ⟨b3, o3, e3, hcell3⟩ := HCR.out j hltv
              simp only [Option.some.injEq, Addr.mk.injEq, and_true] at e3
              obtain ⟨rfl, rfl⟩ := e3
              obtain ⟨az, cz, hvz, hlz, hmz, hcz⟩ := HI.out j hlt
              have hpz : 0 < R[j].length := List.length_pos_iff.2 (hRe.out.ne _ (List.getElem_mem _))
              obtain ⟨bz, oz, rfl, hcz0⟩ := hcz 0 hpz
              rw [headI_getElem _ hpz] at hcz0
              have z1 : wr.cell? ⟨br, or + j, none⟩ = some (.slice (some ⟨bz, oz, none⟩) R[j].length cz) := by rw [hb5.cell (World.block_lt_of_cell? _ _ hcell3), hcell3, hvz]
              have z2 : wr.cell? ⟨bz, oz, none⟩ = some (.int .i64 (headI R[j])) := by rw [hb5.cell (p := ⟨bz, oz, none⟩) (World.block_lt_of_cell? _ _ hcz0)]; exact hcz0
              have hrj := (HI.out j hlt).below hb5
              rw [hvz] at hrj
              obtain ⟨ut, hut, hst, _⟩ := Ints.tail hrj hpz
              have hh2 := HasInt_any ut R[j].tail n wr hut
              have hfirst := Lib.hid (fun (hp : hasI R[j].tail n = true) => nextF_first R n j hlt hp (fun i hi => hall.out i (by omega) hi))
              have hnext := Lib.hid (fun (hp : hasI R[j].tail n = false) (i : Nat) (h : i < R.length) (hi : i < j + 1) => show hasI R[i].tail n = false from by
                rcases Nat.lt_or_ge i j with h1 | h1
                · exact hall.out i h h1
                · have : i = j := by omega
                  subst this; exact hp)
              clear hcell3 hcz hcz0 hvz hrj hut
              generalize R[j].tail = tl at *
              generalize headI R[j] = hd at *
              generalize R[j].length = lz at *
              cases hp : hasI tl n with
              | true =>
                rw [hp] at hh2
                have hnx := hfirst.out hp
                have HNX := Lib.hid hnx
                clear hp hnx
                go_wp2_with (go_at_call 17; refine hh2.mono ?_; rintro e w6 ⟨rfl, rfl⟩)
                go_roundg q'
                case measure => omega
                case rel => exact ⟨way2, hd, by have := HL5.out; omega, rfl, hown5', hb5, by rw [← HNX.out]; exact hway2, by rw [← HNX.out]; exact HWF2⟩
              | false =>
                rw [hp] at hh2
                have hnx := Lib.hid (hnext.out hp)
                clear hp
                go_wp2_with (go_at_call 17; refine hh2.mono ?_; rintro e w6 ⟨rfl, rfl⟩)
                go_roundg (R.length - (j + 1))
                case measure => omega
                case rel => exact ⟨j + 1, by omega, by omega, by go_num, rfl, rfl, hnx⟩
            · exfalso
              obtain ⟨x, hx, hnx, _⟩ := hRe.out.next hmat.out
              obtain ⟨i, hi, rfl⟩ := List.getElem_of_mem hx
              have h1 := hall.out i hi (by omega)
              rw [hasI_iff] at h1
              simp [hnx] at h1
  · have hR : blameF B = ([], cf) := by unfold blameF; rw [hcf, if_pos c0]
    rw [hR]
    have c0' : (cf.1 != 0) = true := by rw [bne_iff_ne]; exact c0
    obtain ⟨fc, fi⟩ := cf
    simp only at c0' hchk
    clear hcf c0 hR
    go_enter Try.func28, Try.ntmps28
    go_wp2_with (go_at_call 40; refine hchk.mono ?_; rintro e w1 ⟨rfl, hb1⟩; simp only [faultV]; have hbx1 := (hb1.block w.heap.size (by simp)).trans (heap_new w _); obtain ⟨g0, g1, g2, g3⟩ := box2 hbx1)
    go_region
    go_wp2
    obtain ⟨q0, q1, _, q3⟩ := box2 (w := ((((w1.setCell ⟨w.heap.size, 0, none⟩ (.int .i64 fc)).setCell ⟨w.heap.size, 1, none⟩ (.int .i64 fi)).alloc (.cells #[.int .i64 fc, .int .i64 fi] 27)).drew)) (box_alloc (box2_set hbx1 (.int .i64 fc) (.int .i64 fi)) (.cells #[.int .i64 fc, .int .i64 fi] 27))
    refine bodyPost_ret (v := .tuple #[.slice none 0 0, faultV fc fi]) (by simp [results, Try.results28, go_sem, q0, q1, faultV]) rfl ⟨_, rfl, RowOf.nil _ _, ?_⟩
    exact (((((ext_alloc w _).trans (hb1.mono (by simp))).setCell (Nat.le_refl _) _).setCell (Nat.le_refl _) _).alloc (by simp; omega) _).drew
end Go.Proofs.Ytbickehhnkhabaa
