/- Walks: Blame$1, the search for a list that holds a class behind its head; lineage.Blame. -/
import Derived.Test.YtbickehhnkhabaaBl2
namespace Go.Proofs.Ytbickehhnkhabaa
open Go.RowKit

set_option maxHeartbeats 400000 in
theorem blamePred_any (v : Value) (l : List Int) (n : Int) (c : Nat) (w : World) (hv : Ints w v l) (hp : 0 < l.length) (hc : w.cell? ⟨c, 0, none⟩ = some (.int .i64 n)) :
    Calls Try.prog 59 #[v, .pointer (some ⟨c, 0, none⟩)] w fun e w' => e = .returned (.bool (hasI l.tail n)) ∧ Below w.heap.size w w' := by
  obtain ⟨u, hu, hsl, _⟩ := Ints.tail hv hp
  have hcall := fun W (h : Ints W u l.tail) => (Contains_any u l.tail n W h).mono fun _ _ (h : _ ∧ _) => (⟨h.1, h.2.symm⟩ : _ ∧ _)
  generalize hasI l.tail n = p at *
  generalize l.tail = t at *
  clear hv hp
  go_enter Try.func59, Try.ntmps59
  go_wp2
  go_quiet ((go_at_call 43; exact Calls.quiet_of_same (hcall _ (hu.below (below_drewN (Below.refl _ _) _)))))
  go_wp2
  go_ret
  exact ⟨rfl, below_drewN (Below.refl _ _) _⟩

theorem blameIdx_any (v : Value) (R : List (List Int)) (n : Int) (c : Nat) (w : World) (hv : IntRows w v R) (hR : Rest R) (hc : w.cell? ⟨c, 0, none⟩ = some (.int .i64 n)) (hn : ∃ y ∈ R, headI y = n) :
    ∃ i, ∃ hi : i < R.length, headI R[i] = nextF R n ∧
    Calls Try.prog 58 #[v, .func (.func 59) #[] #[.pointer (some ⟨c, 0, none⟩)]] w fun e w' => e = .returned (.int .i64 i) ∧ Below w.heap.size w w' := by
  obtain ⟨vs, hl, hrow, hi⟩ := hv
  have h := IndexFuncL_any v vs (fun i => hasI (R.getD i []).tail n) 59 #[.pointer (some ⟨c, 0, none⟩)] w hrow (enters_of Try.func59 (by kernel_rfl) rfl)
    (fun i hlt W hb => by
      have hB : i < R.length := by omega
      have h1 := blamePred_any vs[i] R[i] n c W ((hi i hB).below hb) (List.length_pos_iff.2 (hR.ne _ (List.getElem_mem hB))) (by rw [hb.cell (p := ⟨c, 0, none⟩) (World.block_lt_of_cell? _ _ hc)]; exact hc)
      have h2 : R.getD i [] = R[i] := by simp [List.getD, hB]
      simp only [h2]
      exact h1)
  rw [hl] at h
  rcases firstFrom_spec (fun i => hasI (R.getD i []).tail n) R.length 0 with ⟨_, hall⟩ | ⟨i, _, hi', hf, hyes, hall⟩
  · exfalso
    obtain ⟨y, hy, hny, _⟩ := hR.next hn
    obtain ⟨j, hj, rfl⟩ := List.getElem_of_mem hy
    have h1 := hall j (Nat.zero_le _) hj
    simp [List.getD, hj, hasI_iff, hny] at h1
  · rw [hf] at h
    refine ⟨i, hi', ?_, h⟩
    refine (nextF_first R n i hi' (by simpa [List.getD, hi'] using hyes) fun j hj => ?_).symm
    have h1 := hall j (Nat.zero_le _) hj
    simpa [List.getD, Nat.lt_trans hj hi'] using h1

theorem Ints.from {w : World} {g c : Nat} {l : List Int} (h : Ints w (.slice (some ⟨g, 0, none⟩) l.length c) l) {k : Nat} (hk : k ≤ l.length) : Ints w (.slice (some ⟨g, k, none⟩) (l.length - k) (c - k)) (l.drop k) := by
  obtain ⟨a, c', e, hl, hm, hc⟩ := h
  simp only [Value.slice.injEq, true_and] at e
  obtain ⟨rfl, rfl⟩ := e
  refine ⟨some ⟨g, k, none⟩, c - k, by simp, by simp; omega, by omega, fun i hi => ?_⟩
  simp at hi
  obtain ⟨b, o, e, hcell⟩ := hc (k + i) (by omega)
  simp only [Option.some.injEq, Addr.mk.injEq, and_true] at e
  obtain ⟨rfl, rfl⟩ := e
  exact ⟨g, k, rfl, by simpa using hcell⟩

theorem slice_from (g n c k : Nat) (hk : k < n) (hc : n ≤ c) : ∀ W, (Instr.slice 22 (.slice (some ⟨g, 0, none⟩) n c) (some (.int .i64 k)) none none).run Try.prog W = .ok (.slice (some ⟨g, k, none⟩) (n - k) (c - k)) W := by
  intro W
  obtain ⟨i0, hi, _, hs, _⟩ := info_parts infoInt
  have he : Try.prog.elem 22 = 3 := by simp [Program.elem, Try.underlying22]
  have ht' : Try.prog.underlying 22 = some (.slice (Try.prog.elem 22)) := by rw [he]; exact Try.underlying22
  have hz : ∀ W, (sizeOf (Try.prog.elem 22)).run Try.prog W = .ok 1 W := by
    intro W; rw [he]; simp [sizeOf, typeInfo, hi, hs]
  rw [run_slice_l W 22 _ n c ht' _ _ (by omega) (by omega), hz]
  simp only [Result.andThen, sliced, Nat.mul_one]
  rw [Int.toNat_natCast, if_neg (by omega), Option.map_some, show (⟨g, 0, none⟩ : Addr).add k = ⟨g, k, none⟩ by unfold Addr.add; split <;> simp_all]

theorem idxFrom_ge (x : Int) (l : List Int) (s : Nat) : -1 ≤ idxFrom x l s := by
  induction l generalizing s with
  | nil => simp [idxFrom]
  | cons y l ih =>
    unfold idxFrom
    split
    · omega
    · exact ih (s + 1)

theorem grown_setCell (w : World) (g j : Nat) (u : Value) : w.grownBy (w.setCell ⟨g, j, none⟩ u) (some g) :=
  ⟨rfl, rfl, rfl, by simp, fun k _ hk => by rw [Below.heap_setCell _ _ _ _ (fun e => hk (by rw [e]))]⟩

theorem box1_set {w : World} {N : Nat} {x : Value} {t : TypeId} (h : w.heap[N]? = some (.cells #[x] t (0, 0))) (a : Value) :
    (w.setCell ⟨N, 0, none⟩ a).heap[N]? = some (.cells #[a] t (0, 0)) := by
  simp [World.setCell, Array.getElem?_modify, h]

set_option maxRecDepth 100000 in
set_option maxHeartbeats 4000000 in
theorem Blame_any (v : Value) (B : List (List Int)) (w : World) (hv : IntRows w v B) (hfit : ∀ y ∈ B, ∀ x ∈ y, Fits x) :
    Calls Try.prog 27 #[v] w fun e w' => ∃ v1, e = .returned (.tuple #[v1, faultV (blameF B).2.1 (blameF B).2.2]) ∧ Ints w' v1 (blameF B).1 ∧ Below w.heap.size w w' := by
  obtain ⟨av, cv, rfl⟩ := hv.len
  have hchk := check_any _ B (w.alloc (.cells #[.int .i64 0, .int .i64 0] 27)) (hv.below (ext_alloc _ _)) hfit
  generalize hcf : chkF B = cf at *
  by_cases c0 : cf.1 = 0
  · have hrest := Lib.hid (rest_ok (B := B) (by rw [hcf]; exact c0))
    obtain ⟨hB8, hBl⟩ := chkF_ok (B := B) (by rw [hcf]; exact c0)
    have hone : ∀ y ∈ B, y ≠ [] := fun y hy => (hBl y hy).1
    have ht1 : total (B ++ [B.map headI]) ≤ 1000000 := by
      have h1 := total_le B 40 (fun y hy => (hBl y hy).2)
      rw [total_append, total_cons]
      simp [total] at *
      omega
    obtain ⟨fc, fi⟩ := cf
    simp only at c0 hchk
    subst c0
    have hR : blameF B = if (mergedF B).2.length = 0 then ([], 12, -1) else (turnedF (circF (mergedF B).2).reverse, 0, 0) := by unfold blameF; rw [hcf]; rfl
    have HR := Lib.hid hR
    clear hR hcf
    go_enter Try.func27, Try.ntmps27
    go_wp2_with (go_at_call 36; refine hchk.mono ?_; rintro e w1 ⟨rfl, hb1⟩; simp only [faultV]; have hbx1 := (hb1.block w.heap.size (by simp)).trans (heap_new w _); obtain ⟨g0, g1, g2, g3⟩ := box2 hbx1)
    have hbx2 := box_alloc hbx1 (.cells #[.int .i64 0, .int .i64 fi] 27)
    have hbw2 : Below w.heap.size w (w1.alloc (.cells #[.int .i64 0, .int .i64 fi] 27)) := ((ext_alloc w _).trans (hb1.mono (by simp))).alloc (by omega) _
    clear hchk hbx1 hb1 g0 g1 g2
    refine (lists_any _ B _ (hv.below hbw2) hone hB8).mono ?_
    have hs2 : w.heap.size < (w1.alloc (.cells #[.int .i64 0, .int .i64 fi] 27)).heap.size := by simp; omega
    generalize (w1.alloc (.cells #[.int .i64 0, .int .i64 fi] 27)) = w2 at *
    rintro e w3 ⟨g, cap3, cs3, rfl, hg3, hown3, hel3, hb3⟩
    have hmerge := merge_any w2.heap.size g (B.length + 1) cap3 cs3 (B ++ [B.map headI]) w3 (by simp) hown3 hel3 ht1 (by omega)
    clear hown3 hel3
    go_wp2_with fail
    refine hmerge.mono ?_
    rintro e w4 ⟨v1, v2, rfl, hi1, hi2, hgr4, hob⟩
    clear hob
    have hb4 : Below w2.heap.size w2 w4 := hb3.trans (below_of_grown hgr4 hb3.size (fun k hk => by cases hk; exact hg3))
    have hbx4 := (hb4.block w.heap.size hs2).trans hbx2
    have hbw4 := ext_trans hbw2 hb4
    have hMd : mergedF B = mergeF (total (B ++ [B.map headI]) + 1) [] (ne (B ++ [B.map headI])) := rfl
    rw [← hMd] at hi1 hi2
    obtain ⟨a1, k1, rfl⟩ := hi1.len
    clear hMd hmerge hgr4 hb3 hb4 hbx2 hbw2 hg3 hi1
    generalize (mergedF B).1.length = n1 at *
    have hRe := Lib.hid hrest.out.1
    have hcnt := hrest.out.2.1
    clear hrest hone ht1 hBl
    generalize (mergedF B).2 = R at *
    obtain ⟨a2, k2, rfl⟩ := hi2.len
    obtain ⟨g0, g1, g2, g4⟩ := box2 hbx4
    have hRo := HR.out
    have HR2 := Lib.hid hRo
    clear hRo HR
    by_cases c1 : R.length = 0
    · have HC1 := Lib.hid c1
      rw [c1]
      go_wp2_with (go_at_call 39; refine (fault_any _ _ _).mono ?_; rintro e w5 ⟨rfl, hb5⟩; simp only [faultV]; have hbx5 := (hb5.block w.heap.size g4).trans hbx4; obtain ⟨p0, p1, p2, p3⟩ := box2 hbx5)
      obtain ⟨q0, q1, _, q3⟩ := box2 (box2_set hbx5 (.int .i64 12) (.int .i64 (-1)))
      refine bodyPost_ret (v := .tuple #[.slice none 0 0, faultV 12 (-1)]) (by simp [results, Try.results27, go_sem, q0, q1, faultV]) rfl ⟨_, by rw [HR2.out, if_pos HC1.out], by rw [HR2.out, if_pos HC1.out]; exact RowOf.nil _ _, ?_⟩
      exact ((ext_trans hbw4 hb5).setCell (Nat.le_refl _) _).setCell (Nat.le_refl _) _
    · have c1' : ((R.length : Int) == 0) = false := by simp; exact List.length_pos_iff.1 (by omega)
      have hRpos : 0 < R.length := by omega
      have HC1 := Lib.hid c1
      clear c1
      obtain ⟨vs, hl, hrow, hi⟩ := id hi2
      obtain ⟨ar, cr, hsr, hlr, hmr, hcr⟩ := hrow
      simp only [Value.slice.injEq] at hsr
      obtain ⟨rfl, -, rfl⟩ := hsr
      obtain ⟨br, or, rfl, hcell0⟩ := hcr 0 (by omega)
      have hcell0' : w4.cell? ⟨br, or, none⟩ = some (vs[0]'(by omega)) := hcell0
      obtain ⟨ay, cy, hvy, hly, hmy, hcy⟩ := hi 0 hRpos
      have hp0 : 0 < R[0].length := List.length_pos_iff.2 (hRe.out.ne _ (List.getElem_mem _))
      obtain ⟨by0, oy0, rfl, hcy0⟩ := hcy 0 hp0
      rw [headI_getElem _ hp0] at hcy0
      have hcy0' : w4.cell? ⟨by0, oy0, none⟩ = some (.int .i64 (headI R[0])) := hcy0
      rw [hvy] at hcell0'
      have hstart := Lib.hid (Way.nil hRpos)
      have hhd : headI (R.headD []) = headI R[0] := by
        cases R with
        | nil => simp at hRpos
        | cons x R => rfl
      have hcirc : circF R = (wayF R (R.length + 1) [] (headI R[0])).1.drop (idxFrom (wayF R (R.length + 1) [] (headI R[0])).2 (wayF R (R.length + 1) [] (headI R[0])).1 0).toNat := by unfold circF; rw [hhd]
      generalize hwf : wayF R (R.length + 1) [] (headI R[0]) = WF at *
      have HWF := Lib.hid hwf
      have HCI := Lib.hid hcirc
      have HI := Lib.hid hi
      have HCR := Lib.hid hcr
      have HL := Lib.hid hl
      clear hwf hcirc hi hcr hcell0 hcy hcy0 hvy hhd
      generalize headI R[0] = n0 at *
      generalize R[0].length = ly at *
      obtain ⟨i0, hii, hz0, hz1, hz2⟩ := info_parts infoInt
      have hbA := ext_alloc w4 (.cells #[.int .i64 n0] 3)
      have hbox := heap_new w4 (.cells #[.int .i64 n0] 3)
      go_wp2
      go_loopg [7] (R.length + 1) (fun q s7 wr => ∃ way : List Int, ∃ n : Int, way.length + q = R.length + 1 ∧ wr.ownsRow (w4.heap.size + 1) 3 1 s7 way.length (intVals way) ∧ wr.heap[w4.heap.size]? = some (.cells #[.int .i64 n] 3 (0, 0)) ∧
        Below w4.heap.size w4 wr ∧ w4.heap.size < wr.heap.size ∧ Hid (Way R way n) ∧ Hid (wayF R q way n = WF))
      case atStart => exact ⟨[], n0, by simp, World.ownsRow_nil _ _ _ _, hbox, hbA, by simp, hstart, HWF⟩
      case round =>
        obtain ⟨way, n, hq, hown, hbx, hb, hsz, hway, hwfq⟩ := hrel
        have hwl := hway.out.le
        have hin := Index_any u7 way n wr (Ints_of_own hown)
        obtain ⟨p0, p1, p2⟩ := box1 hbx
        clear hcell0' hcy0' hbA hbox hstart hp0 hly hmy
        cases hh : hasI way n with
        | true =>
          have hmem : n ∈ way := by rw [hasI_iff] at hh; simpa using hh
          obtain ⟨k, hk, e1, e2, -⟩ := idxFrom_get n way 0 hmem
          rw [Nat.zero_add] at e1
          rw [e1] at hin
          have hC : circF R = way.drop k := by
            rw [HCI.out, ← hwfq.out, wayF_stop R _ hh]
            simp only [e1, Int.toNat_natCast]
          have hcir := Lib.hid (hway.out.circle hk e2)
          obtain ⟨g7, c7, rfl, hg7⟩ := own_form hown (by omega)
          obtain ⟨a7', c7', e7, hc7, hc7b, -⟩ := Ints_of_own hown
          simp only [Value.slice.injEq, true_and] at e7
          obtain ⟨-, rfl⟩ := e7
          clear a7'
          have hsl := slice_from g7 way.length c7 k hk hc7
          have hrev := Reverse_any (w4.heap.size + 1) g7 way.length c7 k way wr rfl hk (by omega) hown
          have hlr' : (way.take k ++ (way.drop k).reverse).length = way.length := by simp; omega
          have hdr : (way.take k ++ (way.drop k).reverse).drop k = (way.drop k).reverse := by
            rw [List.drop_append_of_le_length (by simp; omega)]
            rw [List.drop_of_length_le (by simp; omega), List.nil_append]
          have hrl : (way.drop k).reverse.length = way.length - k := by simp
          have hrp : 0 < (way.drop k).reverse.length := by omega
          obtain ⟨k', hk', f1, -, -⟩ := idxFrom_get (Lib.minOf (way.drop k).reverse) (way.drop k).reverse 0 (minOf_spec _ hrp).1
          rw [Nat.zero_add] at f1
          have hturn := Lib.hid (fun W (h : Ints W (.slice (some ⟨g7, k, none⟩) (way.length - k) (c7 - k)) (way.drop k).reverse) => turned_any _ (way.drop k).reverse W h hrp (by omega) k' f1 hk')
          have hfr : ∀ W, W.ownsRow (w4.heap.size + 1) 3 1 (.slice (some ⟨g7, 0, none⟩) way.length c7) way.length (intVals (way.take k ++ (way.drop k).reverse)) → Ints W (.slice (some ⟨g7, k, none⟩) (way.length - k) (c7 - k)) (way.drop k).reverse := by
            intro W h
            have h1 := Ints_of_own (own_cast h hlr'.symm rfl)
            rw [← hlr'] at h1
            have h2 := Ints.from h1 (k := k) (by omega)
            rw [hdr, hlr'] at h2
            exact h2
          have HFR := Lib.hid hfr
          have hblk : ∀ W W', wr.grownBy W (some g7) → Below W.heap.size W W' → W'.heap[w.heap.size]? = some (.cells #[.int .i64 0, .int .i64 0] 27 (0, 0)) := by
            intro W W' h1 h2
            have hs := h1.size
            have := hb.size
            refine (h2.block w.heap.size (by omega)).trans ?_
            rw [h1.block w.heap.size (by omega) (fun e => by simp at e; omega)]
            exact (hb.block w.heap.size g4).trans hbx4
          have HBLK := Lib.hid hblk
          have hB2 := HR2.out
          rw [if_neg HC1.out, hC] at hB2
          have HB2 := Lib.hid hB2
          clear hfr hblk hrl hdr hh hmem e1 e2 hc7b f1 hk' hwfq HWF HCI hway hC hcir hB2 HR2 hlr'
          generalize (way.drop k).reverse = rv at *
          generalize way.take k ++ rv = way2 at *
          clear hrp hk
          generalize way.length - k = m1 at *
          generalize c7 - k = m2 at *
          generalize way.length = wl at *
          have HX := Lib.hid hrev
          clear hrev
          have hrev := HX.out
          go_wp2_with (first
            | (go_at_call 10; refine hin.mono ?_; rintro e w5 ⟨rfl, rfl⟩)
            | (go_at_call 56; refine hrev.mono ?_; rintro e w5 ⟨rfl, hown5, hgr5⟩; have hr5 := HFR.out w5 hown5)
            | (go_at_call 57; refine (hturn.out w5 hr5).mono ?_; rintro e w6 ⟨v6, rfl, hr6, hb6, hob6⟩; obtain ⟨a6, c6, rfl⟩ := hr6.len; have hbx6 := HBLK.out w5 w6 hgr5 hb6; obtain ⟨y0, y1, y2, y3⟩ := box2 hbx6))
          obtain ⟨q0, q1, _, q3⟩ := box2 (box2_set hbx6 (.int .i64 0) (.int .i64 0))
          have hob6' : ∀ a6 n6 c6, (∀ q, (Value.slice a6 n6 c6).ownBlock = some q → w5.heap.size ≤ q) → (Value.slice a6 n6 c6).ownBlock ≠ some w.heap.size := fun _ _ _ h e => by
            have := h _ e
            have h5 := hgr5.size
            have := hb.size
            omega
          have hgr : w6.grownBy ((w6.setCell ⟨w.heap.size, 0, none⟩ (.int .i64 0)).setCell ⟨w.heap.size, 1, none⟩ (.int .i64 0)) (some w.heap.size) :=
            ⟨rfl, rfl, rfl, by simp, fun k _ hk => by rw [Below.heap_setCell _ _ _ _ (fun e => hk (by rw [e])), Below.heap_setCell _ _ _ _ (fun e => hk (by rw [e]))]⟩
          have hbw6 : Below w.heap.size w w6 := hbw4.trans ((hb.mono hbw4.size).trans ((below_of_grown hgr5 (by have := hb.size; have := hbw4.size; omega) (fun q hq => by cases hq; have := hbw4.size; omega)).trans (hb6.mono (by have := hb.size; have := hbw4.size; have := hgr5.size; omega))))
          refine bodyPost_ret (v := .tuple #[.slice a6 (turnedF rv).length c6, faultV 0 0]) (by simp [results, Try.results27, go_sem, q0, q1, faultV]) rfl ⟨_, by rw [HB2.out], ?_, ?_⟩
          · rw [HB2.out]
            exact hr6.grown hgr (.inl (hob6' _ _ _ hob6))
          · exact (hbw6.setCell (Nat.le_refl _) _).setCell (Nat.le_refl _) _
        | false =>
          have hni : idxFrom n way 0 = -1 := by
            have hnm : ¬ 0 ≤ idxFrom n way 0 := by simpa [hasI] using hh
            have hge := idxFrom_ge n way 0
            omega
          rw [hni] at hin
          obtain ⟨q', rfl⟩ : ∃ q', gk = q' + 1 := ⟨gk - 1, by omega⟩
          have hnm : n ∉ way := by rw [hasI_iff] at hh; simpa using hh
          have hway2 := Lib.hid (hway.out.snoc hRe.out hnm)
          have hwf2 := hwfq.out
          rw [wayF_go R q' hh] at hwf2
          have HWF2 := Lib.hid hwf2
          have hmat := hway.out.mat
          have hidx := Lib.hid (fun W (h1 : Below w4.heap.size w4 W) (h2 : W.heap[w4.heap.size]? = some (.cells #[.int .i64 n] 3 (0, 0))) => blameIdx_any (.slice (some ⟨br, or, none⟩) R.length k2) R n w4.heap.size W (hi2.below h1) hRe.out (box1 h2).1 hmat)
          have hlen5 : (way ++ [n]).length = way.length + 1 := by simp
          clear hni hh hwf2 hnm hmat
          go_wp2_with (first | (go_at_call 10; refine hin.mono ?_; rintro e w5 ⟨rfl, rfl⟩) | (at_builtin; refine wpList_append_own _ rfl _ _ 22 rfl (w4.heap.size + 1) 3 i0 (.int .i64 0) 1 8 Try.underlying22 hii hz0 hz1 hz2 rfl (by decide) _ _ _ rfl (hown.alloc _) ⟨wr.heap.size, 0, none⟩ 1 1 [.int .i64 n] rfl rfl ?c1 ?c2 ?c3 ?c4 ?c5 ?_))
          case c1 => exact cell_one_new _ _ _
          case c2 => simp [Value.oneCell']
          case c3 => rw [maxLen_eq']; omega
          case c4 => omega
          case c5 => simp; omega
          intro v' w5 hown5 hgr5 _
          have hb5 : Below w4.heap.size w4 w5 := (hb.alloc hb.size _).grown hgr5 (by have := hb.size; simp; omega) (fun q hq => by have := (hown.lt q hq).1; omega)
          have hbx5 : w5.heap[w4.heap.size]? = some (.cells #[.int .i64 n] 3 (0, 0)) := by
            rw [hgr5.block w4.heap.size (by simp; omega) (fun e => by have := (hown.lt _ e.symm).1; omega)]; exact box_alloc hbx _
          have hown5' : w5.ownsRow (w4.heap.size + 1) 3 1 v' (way ++ [n]).length (intVals (way ++ [n])) := own_cast hown5 (by simp) (by simp [intVals])
          have hsz5 : w4.heap.size < w5.heap.size := by have := hgr5.size; simp at this; omega
          obtain ⟨i, hi, hhead, hcall⟩ := hidx.out w5 hb5 hbx5
          have hlt : i < vs.length := by omega
          obtain ⟨b3, o3, e3, hcell3⟩ := HCR.out i hlt
          simp only [Option.some.injEq, Addr.mk.injEq, and_true] at e3
          obtain ⟨rfl, rfl⟩ := e3
          obtain ⟨az, cz, hvz, hlz, hmz, hcz⟩ := HI.out i hi
          have hpz : 0 < R[i].length := List.length_pos_iff.2 (hRe.out.ne _ (List.getElem_mem _))
          obtain ⟨bz, oz, rfl, hcz0⟩ := hcz 0 hpz
          rw [headI_getElem _ hpz, hhead] at hcz0
          rw [hvz] at hcell3
          have HC3 := Lib.hid hcell3
          have HZ := Lib.hid hcz0
          clear hcell3 hcz hcz0 hvz hhead hown hown5 hgr5 hbx hb hin p0 p1 p2 hl HCR HI hi2 hidx
          generalize R[i].length = lz at *
          go_wp2_with (go_at_call 58; refine hcall.mono ?_; rintro e w6 ⟨rfl, hb6⟩; have hb46 := ext_trans hb5 hb6; have z1 : w6.cell? ⟨br, or + i, none⟩ = some (.slice (some ⟨bz, oz, none⟩) lz cz) := (by rw [hb46.cell (World.block_lt_of_cell? _ _ HC3.out)]; exact HC3.out); have z2 : w6.cell? ⟨bz, oz, none⟩ = some (.int .i64 (nextF R n)) := (by rw [hb46.cell (p := ⟨bz, oz, none⟩) (World.block_lt_of_cell? _ _ HZ.out)]; exact HZ.out); have hbx6 := (hb6.block w4.heap.size hsz5).trans hbx5; obtain ⟨y0, y1, y2⟩ := box1 hbx6)
          have hne6 : v'.ownBlock ≠ some w4.heap.size := fun e => by have := (hown5'.lt _ e).1; omega
          go_roundg q'
          case measure => omega
          case rel => exact ⟨way ++ [n], nextF R n, by simp; omega, (own_below hown5' hb6).kept (grown_setCell _ _ _ _) (.inr hne6), box1_set hbx6 _, hb46.setCell (Nat.le_refl _) _, by have := hb6.size; simp; omega, hway2, HWF2⟩
  · have hR : blameF B = ([], cf) := by unfold blameF; rw [hcf, if_pos c0]
    rw [hR]
    have c0' : (cf.1 != 0) = true := by rw [bne_iff_ne]; exact c0
    obtain ⟨fc, fi⟩ := cf
    simp only at c0' hchk
    clear hcf c0 hR
    go_enter Try.func27, Try.ntmps27
    go_wp2_with (go_at_call 36; refine hchk.mono ?_; rintro e w1 ⟨rfl, hb1⟩; simp only [faultV]; have hbx1 := (hb1.block w.heap.size (by simp)).trans (heap_new w _); obtain ⟨g0, g1, g2, g3⟩ := box2 hbx1)
    go_region
    go_wp2
    obtain ⟨q0, q1, _, q3⟩ := box2 (w := ((((w1.setCell ⟨w.heap.size, 0, none⟩ (.int .i64 fc)).setCell ⟨w.heap.size, 1, none⟩ (.int .i64 fi)).alloc (.cells #[.int .i64 fc, .int .i64 fi] 27)).drew)) (box_alloc (box2_set hbx1 (.int .i64 fc) (.int .i64 fi)) (.cells #[.int .i64 fc, .int .i64 fi] 27))
    refine bodyPost_ret (v := .tuple #[.slice none 0 0, faultV fc fi]) (by simp [results, Try.results27, go_sem, q0, q1, faultV]) rfl ⟨_, rfl, RowOf.nil _ _, ?_⟩
    exact (((((ext_alloc w _).trans (hb1.mono (by simp))).setCell (Nat.le_refl _) _).setCell (Nat.le_refl _) _).alloc (by simp; omega) _).drew
end Go.Proofs.Ytbickehhnkhabaa
