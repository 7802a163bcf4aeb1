/- Part 18 of the proof. -/
import Derived.Test.YtpmadgmjkljbgaaDoorM17

/- Walks: places, fromPlaces. -/
namespace Go.Proofs.YtpmadgmjkljbgaaDoor
open Go.RowKit

/-- A row of n bools that the call owns; a row of n bools that can be read. -/
def OwnB (B n : Nat) (v : Value) (W : World) : Prop := ∃ ll : List Bool, ll.length = n ∧ W.ownsRow B 4 1 v n (ll.map Value.bool)
def BoolsL (n : Nat) (v : Value) (W : World) : Prop := ∃ lo : List Bool, lo.length = n ∧ Bools W v lo
theorem OwnB.below {B n : Nat} {v : Value} {W W' : World} (h : OwnB B n v W) (hb : Below W.heap.size W W') : OwnB B n v W' := by
  obtain ⟨ll, h1, h2⟩ := h
  exact ⟨ll, h1, own_below h2 hb⟩
theorem OwnB.base {B B' n : Nat} {v : Value} {W : World} (h : OwnB B n v W) (hb : B' ≤ B) : OwnB B' n v W := by
  obtain ⟨ll, h1, h2⟩ := h
  exact ⟨ll, h1, own_base h2 hb⟩
theorem BoolsL.below {n : Nat} {v : Value} {W W' : World} (h : BoolsL n v W) (hb : Below W.heap.size W W') : BoolsL n v W' := by
  obtain ⟨ll, h1, h2⟩ := h
  exact ⟨ll, h1, RowOf.below h2 hb⟩
theorem OwnB.bools {B n : Nat} {v : Value} {W : World} (h : OwnB B n v W) : BoolsL n v W := by
  obtain ⟨ll, h1, h2⟩ := h
  exact ⟨ll, h1, bools_own (own_cast h2 h1.symm rfl)⟩
theorem BoolsL.cell {n : Nat} {v : Value} {W : World} (h : BoolsL n v W) {k : Nat} (hk : k < n) : ∃ (b off : Nat) (c : Nat) (x : Bool), v = .slice (some ⟨b, off, none⟩) n c ∧ W.cell? ⟨b, off + k, none⟩ = some (.bool x) := by
  obtain ⟨lo, h1, a, c, rfl, _, _, hc⟩ := h
  obtain ⟨b, off, rfl, h2⟩ := hc k (by omega)
  exact ⟨b, off, c, _, by rw [h1], h2⟩
theorem BoolsL.setB {n : Nat} {v : Value} {W : World} (h : BoolsL n v W) (p : Addr) (x : Bool) : BoolsL n v (W.setCell p (.bool x)) := by
  obtain ⟨lo, h1, a, c, rfl, h2, h3, hc⟩ := h
  cases a with
  | none =>
    refine ⟨lo, h1, none, c, rfl, h2, h3, fun i hi => ?_⟩
    obtain ⟨b, off, he, _⟩ := hc i hi
    cases he
  | some ad =>
    refine ⟨(List.range lo.length).map fun i => if (⟨ad.block, ad.off + i, none⟩ : Addr) = p then x else lo.getD i false, by simp [h1], some ad, c, by simp, by simpa using h2, h3, fun i hi => ?_⟩
    have hi' : i < lo.length := by simpa using hi
    obtain ⟨b, off, he, hcell⟩ := hc i hi'
    simp only [Option.some.injEq] at he
    subst he
    refine ⟨b, off, rfl, ?_⟩
    simp only [List.getElem_map, List.getElem_range]
    by_cases hp : (⟨b, off + i, none⟩ : Addr) = p
    · rw [if_pos hp, ← hp]
      exact World.cell?_setCell_same _ _ _ hcell
    · rw [if_neg hp, World.cell?_setCell_other _ _ _ _ (Ne.symm hp)]
      rw [hcell]
      congr 2
      rw [List.getD_eq_getElem?_getD, List.getElem?_eq_getElem hi']; rfl
theorem OwnB.store {B n : Nat} {g c : Nat} {W : World} (h : OwnB B n (.slice (some ⟨g, 0, none⟩) n c) W) {k : Nat} (hk : k < n) :
    (∃ y, W.cell? ⟨g, k, none⟩ = some (.bool y)) ∧ W.frozen? ⟨g, k, none⟩ = false ∧ B ≤ g ∧ ∀ x, OwnB B n (.slice (some ⟨g, 0, none⟩) n c) (W.setCell ⟨g, k, none⟩ (.bool x)) := by
  obtain ⟨ll, h1, h2⟩ := h
  refine ⟨⟨_, own_bool h2 h1 (by omega)⟩, h2.frozenAt k, (h2.lt g rfl).1, fun x => ⟨ll.set k x, by simp [h1], ?_⟩⟩
  exact own_cast (h2.stored k (.bool x)).1 rfl (by rw [List.map_set])
set_option maxRecDepth 100000 in
set_option maxHeartbeats 4000000 in
theorem places_any (xv : Value) (z : Int) (n : Nat) (w : World) (hx : IntAt w xv z) (nz : (dig z.natAbs).length ≤ 100000) (hn : n ≤ 10000000) :
    Calls Tryd.prog 58 #[xv, .int .i64 n] w fun e w' => ∃ v', e = .returned v' ∧ OwnB w.heap.size n v' w' ∧ Below w.heap.size w w' := by
  have HX := Lib.hid (fun W (h : Below w.heap.size w W) => hx.below h)
  have HNg := Lib.hid (fun W (h : Below w.heap.size w W) => Negative_any _ z W (hx.below h))
  obtain ⟨b1, v1, m, rfl, hm, hz⟩ := hx
  have hzm : z.natAbs = m := by rw [← hz, ZI_abs]
  have HM := Lib.hid hm
  obtain ⟨a1, c1, rfl⟩ := hm.slice
  obtain ⟨i1, hji, hy0, hy1, hy2⟩ := info_parts infoB
  clear hm hz
  generalize (dig m).length = l1 at HX HM HNg
  have hal1 := ext_alloc w (.cells #[.bool b1, .slice a1 l1 c1] 41)
  have hal2 := heap_new w (.cells #[.bool b1, .slice a1 l1 c1] 41)
  go_enter Tryd.func58, Tryd.ntmps58
  go_upto_region 1 with fail
  generalize (w.alloc (.cells #[.bool b1, .slice a1 l1 c1] 41)) = w1 at *
  have hb1 := hal1
  have h1 := hal2
  clear hal1 hal2
  have d0 := box_cell h1 0
  have d1 := box_cell h1 1
  simp only [List.getElem?_toArray, List.getElem?_cons_zero, List.getElem?_cons_succ] at d0 d1
  by_cases hneg : z < 0
  · have e1 : decide (z < 0) = true := by simpa using hneg
    rw [e1] at HNg
    have hm1 : 1 ≤ m := by omega
    clear e1 hneg
    go_wp2_with fail
    refine (HNg.out w1 hb1).mono ?_
    rintro e w2 ⟨rfl, hb2⟩
    replace h1 := (hb2.block _ (box_lt h1)).trans h1
    have hb12 := ext_trans hb1 hb2
    clear d0 d1 hb1 hb2
    go_wp2_with fail
    refine (Small_any 1 w2 (by omega)).mono ?_
    rintro e w3 ⟨vs1, rfl, hs1, hb3⟩
    replace h1 := (hb3.block _ (box_lt h1)).trans h1
    have hb13 := ext_trans hb12 hb3
    have HMi := Lib.hid (Minus_any _ _ m 1 w3 (HM.out.below hb13) hs1 hm1 (by rw [← hzm]; exact Nat.le_trans nz (by omega)))
    clear hs1 hb12 hb3
    go_wp2_with fail
    refine HMi.out.mono ?_
    rintro e w4 ⟨v5, rfl, hN5, hb4⟩
    replace h1 := (hb4.block _ (box_lt h1)).trans h1
    have hbw := ext_trans hb13 hb4
    have HX5 := Lib.hid hN5
    obtain ⟨a5, c5, rfl⟩ := hN5.slice
    have HL5 := Lib.hid (show (dig (m - 1)).length ≤ 100000 from dig_len_of_le (Nat.sub_le _ _) (by rw [← hzm]; exact nz))
    clear hN5 hb13 hb4 HMi hzm nz hm1
    generalize hm5 : m - 1 = m5 at *
    clear hm5
    generalize (dig m5).length = l5 at HX5 ⊢
    have hBw0 : w.heap.size ≤ w4.heap.size := hbw.size
    have hlt1 := box_lt h1
    go_upto_region 4 with fail
    go_wp2_with (at_make; refine wpList_make_full _ rfl _ _ 46 rfl w4.heap.size 4 i1 (.bool false) 1 Tryd.underlying46 hji hy0 hy1 .i64 .i64 _ _ n rfl rfl rfl rfl (by rw [hy2]; omega) (by unfold maxLen; omega) (Nat.le_refl _) ?_; intro w0 hown0 hgrow0)
    have hO0 : OwnB w4.heap.size n (.slice (some ⟨w4.heap.size, 0, none⟩) n n) w0 := ⟨List.replicate n false, by simp, by
      refine own_cast hown0 (by omega) ?_
      rw [Nat.mul_one]
      show (madeCells #[.bool false] n).toList = _
      rw [toList_madeCells_one]
      simp⟩
    have hb0 : Below w4.heap.size w4 w0 := below_of_grown hgrow0 (Nat.le_refl _) (fun k h => by cases h)
    clear hown0 hgrow0
    obtain ⟨g, hg⟩ : ∃ g, g = w4.heap.size := ⟨_, rfl⟩
    rw [← hg] at hO0
    try rw [← hg]
    have hOn := Lib.hid (Ones_any _ m5 w0 (HX5.out.below hb0) (Nat.le_trans HL5.out (by omega)))
    replace h1 := (hb0.block _ hlt1).trans h1
    have hbw2 := ext_trans hbw hb0
    have hgl : w.heap.size < g := by omega
    clear hb0
    obtain ⟨B, hBw, hO0⟩ : ∃ B, w.heap.size ≤ B ∧ OwnB B n (.slice (some ⟨g, 0, none⟩) n n) w0 := ⟨g, by omega, hO0⟩
    clear hg hlt1 hBw0 hbw
    refine hOn.out.mono ?_
    rintro e w6 ⟨lv, rfl, hbits, hb6⟩
    have HLO := Lib.hid (show BoolsL (bitsN m5).length lv w6 from ⟨_, rfl, hbits⟩)
    obtain ⟨la, lc, rfl, -⟩ := hbits
    have hLB : (bitsN m5).length ≤ 1600000 := bits_len HL5.out
    generalize (bitsN m5).length = LB at *
    have HO6 := Lib.hid (hO0.below hb6)
    replace h1 := (hb6.block _ (box_lt h1)).trans h1
    have hbw6 := ext_trans hbw2 hb6
    clear hO0 hb6 hbw2 hOn
    go_wp2
    go_loopg [7, 8, 22] LB (fun q s7 s8 s22 wr => ∃ k : Nat, k ≤ LB ∧ LB - k ≤ q ∧ s22 = .int .i64 k ∧ BoolsL LB (.slice la LB lc) wr ∧ OwnB B n (.slice (some ⟨g, 0, none⟩) n n) wr ∧ wr.heap[w.heap.size]? = some (.cells #[.bool b1, .slice a1 l1 c1] 41 (0, 0)) ∧ Below w.heap.size w wr)
    case atStart => exact ⟨0, Nat.zero_le _, by omega, rfl, HLO.out, HO6.out, h1, hbw6⟩
    case round =>
      clear h1 hbw6 HLO HO6
      obtain ⟨k, hk, hq, rfl, hlo, ho, h1, hbr⟩ := hrel
      by_cases hlt : k < LB
      · obtain ⟨bq, oq, cq, y, he, hcell⟩ := hlo.cell hlt
        simp only [Value.slice.injEq, true_and] at he
        obtain ⟨rfl, rfl⟩ := he
        by_cases hkn : k < n
        · obtain ⟨⟨x0, hx0⟩, hf0, hg0, hset⟩ := ho.store hkn
          have hknI : (k : Int) < (n : Int) := by omega
          have HSET := Lib.hid (hset y)
          have HLO := Lib.hid (hlo.setB ⟨g, k, none⟩ y)
          have HB := Lib.hid (hbr.setCell (p := ⟨g, k, none⟩) (Nat.le_trans hBw hg0) (.bool y))
          have H1 := Lib.hid (show (wr.setCell ⟨g, k, none⟩ (.bool y)).heap[w.heap.size]? = some (.cells #[.bool b1, .slice a1 l1 c1] 41 (0, 0)) by rw [Below.heap_setCell _ _ _ _ (by simp only; omega)]; exact h1)
          clear hset ho hlo hbr h1
          go_wp2
          go_roundg (LB - (k + 1))
          case measure => omega
          case rel => exact ⟨k + 1, by omega, by omega, by go_num, HLO.out, HSET.out, H1.out, HB.out⟩
        · have hknI : ¬ ((k : Int) < (n : Int)) := by omega
          go_wp2
          go_roundg (LB - (k + 1))
          case measure => omega
          case rel => exact ⟨k + 1, by omega, by omega, by go_num, hlo, ho, h1, hbr⟩
      · clear hlo
        go_wp2
        go_loopg [37] n (fun q s37 wr => ∃ k : Nat, k ≤ n ∧ n - k ≤ q ∧ s37 = .int .i64 k ∧ OwnB B n (.slice (some ⟨g, 0, none⟩) n n) wr ∧ wr.heap[w.heap.size]? = some (.cells #[.bool b1, .slice a1 l1 c1] 41 (0, 0)) ∧ Below w.heap.size w wr)
        case atStart => exact ⟨0, Nat.zero_le _, by omega, rfl, ho, h1, hbr⟩
        case round =>
          clear h1 hbr ho hk hq hlt
          obtain ⟨k, hk, hq, rfl, ho, h1, hbr⟩ := hrel
          by_cases hkn : k < n
          · have hknI : (k : Int) < (n : Int) := by omega
            go_upto_region 14 with fail
            have hBd : Bxs [(w.heap.size, (.cells #[.bool b1, .slice a1 l1 c1] 41))] w wr.drew := ⟨hbr.drew, fun x hx => by
              simp only [List.mem_cons, List.not_mem_nil, or_false] at hx
              subst hx
              exact h1⟩
            have HOd := Lib.hid (show OwnB B n (.slice (some ⟨g, 0, none⟩) n n) wr.drew from ho)
            clear h1 hbr ho
            refine wp_region_noPanic ?_
            refine wp_region_L (S := fun _ W => Bxs [(w.heap.size, (.cells #[.bool b1, .slice a1 l1 c1] 41))] w W) (by kernel_rfl) ?_
            refine wpAnyL_take (T := fun _ => True) (i := 0) (v := ?vvpa0) rfl (by kernel_rfl) (by kernel_rfl) (by kernel_rfl) (fun _ _ _ h => h) (fun _ _ => Iff.rfl) (fun _ _ _ _ _ => trivial) (Closed.of_B (by kernel_rfl)) (Or.inl ⟨by kernel_rfl, ?hypa0⟩) hBd ?restpa0
            case hypa0 => (intro w _; go_simp; with_reducible rfl)
            go_simp
            refine wpAnyL_take (T := fun _ => True) (i := 1) (v := ?vvpa1) rfl (by kernel_rfl) (by kernel_rfl) (by kernel_rfl) (fun _ _ _ h => h) (fun _ _ => Iff.rfl) (fun _ _ _ _ _ => trivial) (Closed.of_B (by kernel_rfl)) (Or.inl ⟨by kernel_rfl, ?hypa1⟩) hBd ?restpa1
            case hypa1 => (intro w _; go_simp; with_reducible rfl)
            go_simp
            refine wpAnyL_take (T := fun _ => True) (i := 2) (v := ?vvpa2) rfl (by kernel_rfl) (by kernel_rfl) (by kernel_rfl) (fun _ _ _ h => h) (fun _ _ => Iff.rfl) (fun _ _ _ _ _ => trivial) (Closed.of_B (by kernel_rfl)) (Or.inl ⟨by kernel_rfl, ?hypa2⟩) hBd ?restpa2
            case hypa2 => (intro w _; go_simp; with_reducible rfl)
            go_simp
            refine wpAnyL_take (T := fun _ => True) (i := 3) (v := ?vvpa3) rfl (by kernel_rfl) (by kernel_rfl) (by kernel_rfl) (fun _ _ _ h => h) (fun _ _ => Iff.rfl) (fun _ _ _ _ _ => trivial) (Closed.of_B (by kernel_rfl)) (Or.inl ⟨by kernel_rfl, ?hypa3⟩) hBd ?restpa3
            case hypa3 => (intro w _; go_simp; with_reducible rfl)
            go_simp
            refine wpAnyL_take (T := fun _ => True) (i := 4) (v := ?vvpa4) rfl (by kernel_rfl) (by kernel_rfl) (by kernel_rfl) (fun _ _ _ h => h) (fun _ _ => Iff.rfl) (fun _ _ _ _ _ => trivial) (Closed.of_B (by kernel_rfl)) (Or.inl ⟨by kernel_rfl, ?hypa4⟩) hBd ?restpa4
            case hypa4 => (intro w _; go_simp; with_reducible rfl)
            go_simp
            refine wpAnyL_take (T := fun W => Bxs [(w.heap.size, (.cells #[.bool b1, .slice a1 l1 c1] 41))] w W) (i := 6) (v := ?vvpa6) rfl (by kernel_rfl) (by kernel_rfl) (by kernel_rfl) (fun _ _ _ h => h) (fun _ _ => Iff.rfl) (fun _ _ _ _ h => h) (Closed.of_B (by kernel_rfl)) (Or.inl ⟨by kernel_rfl, ?hypa6⟩) hBd ?restpa6
            case hypa6 =>
              intro W hW
              have hx0 := hW.2 ((w.heap.size, (.cells #[.bool b1, .slice a1 l1 c1] 41)) : Nat × Obj) (by simp)
              have dx0x0 := box_cell hx0 0
              have dx0x1 := box_cell hx0 1
              simp only [List.getElem?_toArray, List.getElem?_cons_zero, List.getElem?_cons_succ] at dx0x0 dx0x1
              clear hW
              go_simp; with_reducible rfl
            go_simp
            refine wpAnyL_rows (R := fun i v _ W => match i with | 5 => ∃ b : Bool, v = .bool b | 7 => v = .bool true | 8 => ∃ b : Bool, v = .bool b | 9 => v = .pointer (some ⟨g, k, none⟩) | _ => True) (I := fun _ _ W => Bxs [(w.heap.size, (.cells #[.bool b1, .slice a1 l1 c1] 41))] w W ∧ OwnB B n (.slice (some ⟨g, 0, none⟩) n n) W) [((5, some 45, []), []), ((7, some 47, []), []), ((8, some 48, [5, 7]), [(5, some 45, []), (7, some 47, [])]), ((9, some 49, []), []), ((10, none, [8, 9]), [(8, some 48, [5, 7]), (9, some 49, [])])] (by kernel_rfl) (by decide) (fun _ _ _ h => h.1) (fun _ => ⟨hBd, HOd.out⟩) ?tabpa ?finpa
            case tabpa =>
              refine TabAll.cons rfl (by kernel_rfl) (fun L vs W hsz hcl hn hd hdn hI K hK => ?_) ?_
              · simp only [putsD, Act.put, List.setIfInBounds_toArray, List.set_cons_zero, List.set_cons_succ] at hK ⊢
                clear hd hdn
                obtain ⟨⟨y, hy⟩, -, -, -⟩ := hI.2.store hkn
                go_simp
                refine hK _ (.bool y) _ (by rfl) (fun i u l hij hL h => h) ⟨_, rfl⟩ hI
              refine TabAll.cons rfl (by kernel_rfl) (fun L vs W hsz hcl hn hd hdn hI K hK => ?_) ?_
              · simp only [putsD, Act.put, List.setIfInBounds_toArray, List.set_cons_zero, List.set_cons_succ] at hK ⊢
                clear hd hdn
                go_simp
                refine (HNg.out W hI.1.1).mono ?_
                rintro e W3 ⟨rfl, hb3⟩
                refine hK _ (.bool true) _ (by rfl) (fun i u l hij hL h => ?_) rfl ⟨hI.1.below hb3, hI.2.below hb3⟩
                · match i, hij, hL, h with
                  | 5, _, _, h => exact h
                  | 7, _, _, h => exact h
                  | 8, _, _, h => exact h
                  | 9, _, _, h => exact h
                  | 0, _, _, _ | 1, _, _, _ | 2, _, _, _ | 3, _, _, _ | 4, _, _, _ | 6, _, _, _ | _ + 10, _, _, _ => trivial
              refine TabAll.cons rfl (by kernel_rfl) (fun L vs W hsz hcl hn hd hdn hI K hK => ?_) ?_
              · simp only [putsD, Act.put, List.setIfInBounds_toArray, List.set_cons_zero, List.set_cons_succ] at hK ⊢
                have r5 := hd.1
                have r7 := hd.2.1
                generalize hv5 : vs 5 = v5 at *
                have HV5 := Lib.hid hv5
                clear hv5
                generalize hv7 : vs 7 = v7 at *
                have HV7 := Lib.hid hv7
                clear hv7
                clear hd hdn
                obtain ⟨y, q5⟩ : ∃ b : Bool, v5 = .bool b := r5
                have q7 : v7 = .bool true := r7
                clear r7
                subst q5 q7
                cases y
                all_goals
                  go_simp
                  refine hK _ _ _ (by rfl) (fun i u l hij hL h => h) ⟨_, rfl⟩ hI
              refine TabAll.cons rfl (by kernel_rfl) (fun L vs W hsz hcl hn hd hdn hI K hK => ?_) ?_
              · simp only [putsD, Act.put, List.setIfInBounds_toArray, List.set_cons_zero, List.set_cons_succ] at hK ⊢
                clear hd hdn
                go_simp
                refine hK _ (.pointer (some ⟨g, k, none⟩)) _ (by rfl) (fun i u l hij hL h => h) rfl hI
              refine TabAll.cons rfl (by kernel_rfl) (fun L vs W hsz hcl hn hd hdn hI K hK => ?_) ?_
              · simp only [putsD, Act.put, List.setIfInBounds_toArray, List.set_cons_zero, List.set_cons_succ] at hK ⊢
                have r8 := hd.1
                have r9 := hd.2.1
                generalize hv8 : vs 8 = v8 at *
                have HV8 := Lib.hid hv8
                clear hv8
                generalize hv9 : vs 9 = v9 at *
                have HV9 := Lib.hid hv9
                clear hv9
                clear hd hdn
                have q9 : v9 = .pointer (some ⟨g, k, none⟩) := r9
                clear r9
                subst q9
                obtain ⟨y, q8⟩ : ∃ b : Bool, v8 = .bool b := r8
                subst q8
                obtain ⟨⟨x0, hx0⟩, hf0, hg0, hset⟩ := hI.2.store hkn
                have HSET := Lib.hid (hset y)
                have HI := Lib.hid hI
                clear hset hI
                go_simp
                refine hK _ undef _ (by rfl) (fun i u l hij hL h => ?_) trivial ⟨⟨HI.out.1.1.setCell (p := ⟨g, k, none⟩) (Nat.le_trans hBw hg0) (.bool y), fun x hx => ?_⟩, HSET.out⟩
                · match i, hij, hL, h with
                  | 5, _, _, h => exact h
                  | 7, _, _, h => exact h
                  | 8, _, _, h => exact h
                  | 9, _, _, h => exact h
                  | 10, hij, _, _ => exact absurd rfl hij
                  | 0, _, _, _ | 1, _, _, _ | 2, _, _, _ | 3, _, _, _ | 4, _, _, _ | 6, _, _, _ | _ + 11, _, _, _ => trivial
                · have hx' := HI.out.1.2 x hx
                  simp only [List.mem_cons, List.not_mem_nil, or_false] at hx
                  subst hx
                  simp only at hx' ⊢
                  rw [Below.heap_setCell _ _ _ _ (by simp only; omega)]
                  exact hx'
              exact TabAll.nil
            case finpa =>
              intro vs Wz hd L hsz hall hI
              have r5 := hd.1
              have r7 := hd.2.1
              have r8 := hd.2.2.1
              have r9 := hd.2.2.2.1
              have r10 := hd.2.2.2.2.1
              simp only [List.map_cons, List.map_nil, putsD, Act.put, List.setIfInBounds_toArray, List.set_cons_zero, List.set_cons_succ]
              generalize vs 5 = v5 at *
              generalize vs 7 = v7 at *
              generalize vs 8 = v8 at *
              generalize vs 9 = v9 at *
              generalize vs 10 = v10 at *
              clear hd hall hsz
              refine NoPanic.normal ?_
              have hx2 := hI.1.2 (w.heap.size, (.cells #[.bool b1, .slice a1 l1 c1] 41)) (by simp)
              have hbz := hI.1.1
              have hoz := hI.2
              clear hI r5 r7 r8 r9 r10 hBd HOd
              go_wp2
              go_roundg (n - (k + 1))
              case measure => omega
              case rel => exact ⟨k + 1, by omega, by omega, by go_num, hoz, hx2, hbz⟩
          · have hknI : ¬ ((k : Int) < (n : Int)) := by omega
            go_wp2
            go_ret
            exact ⟨_, rfl, ho.base hBw, hbr⟩
  · have e1 : decide (z < 0) = false := by simpa using hneg
    rw [e1] at HNg
    clear e1 hneg
    go_wp2_with fail
    refine (HNg.out w1 hb1).mono ?_
    rintro e w4 ⟨rfl, hb2⟩
    replace h1 := (hb2.block _ (box_lt h1)).trans h1
    have hbw := ext_trans hb1 hb2
    have HX5 := Lib.hid (HM.out.below hbw)
    have HL5 := Lib.hid (show (dig m).length ≤ 100000 by rw [← hzm]; exact nz)
    clear d0 d1 hb1 hb2 hzm nz
    obtain ⟨m5, hm5⟩ : ∃ m5, m5 = m := ⟨_, rfl⟩
    rw [← hm5] at HX5 HL5
    clear hm5
    have hBw0 : w.heap.size ≤ w4.heap.size := hbw.size
    have hlt1 := box_lt h1
    go_upto_region 4 with fail
    go_wp2_with (at_make; refine wpList_make_full _ rfl _ _ 46 rfl w4.heap.size 4 i1 (.bool false) 1 Tryd.underlying46 hji hy0 hy1 .i64 .i64 _ _ n rfl rfl rfl rfl (by rw [hy2]; omega) (by unfold maxLen; omega) (Nat.le_refl _) ?_; intro w0 hown0 hgrow0)
    have hO0 : OwnB w4.heap.size n (.slice (some ⟨w4.heap.size, 0, none⟩) n n) w0 := ⟨List.replicate n false, by simp, by
      refine own_cast hown0 (by omega) ?_
      rw [Nat.mul_one]
      show (madeCells #[.bool false] n).toList = _
      rw [toList_madeCells_one]
      simp⟩
    have hb0 : Below w4.heap.size w4 w0 := below_of_grown hgrow0 (Nat.le_refl _) (fun k h => by cases h)
    clear hown0 hgrow0
    obtain ⟨g, hg⟩ : ∃ g, g = w4.heap.size := ⟨_, rfl⟩
    rw [← hg] at hO0
    try rw [← hg]
    have hOn := Lib.hid (Ones_any _ m5 w0 (HX5.out.below hb0) (Nat.le_trans HL5.out (by omega)))
    replace h1 := (hb0.block _ hlt1).trans h1
    have hbw2 := ext_trans hbw hb0
    have hgl : w.heap.size < g := by omega
    clear hb0
    obtain ⟨B, hBw, hO0⟩ : ∃ B, w.heap.size ≤ B ∧ OwnB B n (.slice (some ⟨g, 0, none⟩) n n) w0 := ⟨g, by omega, hO0⟩
    clear hg hlt1 hBw0 hbw
    refine hOn.out.mono ?_
    rintro e w6 ⟨lv, rfl, hbits, hb6⟩
    have HLO := Lib.hid (show BoolsL (bitsN m5).length lv w6 from ⟨_, rfl, hbits⟩)
    obtain ⟨la, lc, rfl, -⟩ := hbits
    have hLB : (bitsN m5).length ≤ 1600000 := bits_len HL5.out
    generalize (bitsN m5).length = LB at *
    have HO6 := Lib.hid (hO0.below hb6)
    replace h1 := (hb6.block _ (box_lt h1)).trans h1
    have hbw6 := ext_trans hbw2 hb6
    clear hO0 hb6 hbw2 hOn
    go_wp2
    go_loopg [7, 8, 22] LB (fun q s7 s8 s22 wr => ∃ k : Nat, k ≤ LB ∧ LB - k ≤ q ∧ s22 = .int .i64 k ∧ BoolsL LB (.slice la LB lc) wr ∧ OwnB B n (.slice (some ⟨g, 0, none⟩) n n) wr ∧ wr.heap[w.heap.size]? = some (.cells #[.bool b1, .slice a1 l1 c1] 41 (0, 0)) ∧ Below w.heap.size w wr)
    case atStart => exact ⟨0, Nat.zero_le _, by omega, rfl, HLO.out, HO6.out, h1, hbw6⟩
    case round =>
      clear h1 hbw6 HLO HO6
      obtain ⟨k, hk, hq, rfl, hlo, ho, h1, hbr⟩ := hrel
      by_cases hlt : k < LB
      · obtain ⟨bq, oq, cq, y, he, hcell⟩ := hlo.cell hlt
        simp only [Value.slice.injEq, true_and] at he
        obtain ⟨rfl, rfl⟩ := he
        by_cases hkn : k < n
        · obtain ⟨⟨x0, hx0⟩, hf0, hg0, hset⟩ := ho.store hkn
          have hknI : (k : Int) < (n : Int) := by omega
          have HSET := Lib.hid (hset y)
          have HLO := Lib.hid (hlo.setB ⟨g, k, none⟩ y)
          have HB := Lib.hid (hbr.setCell (p := ⟨g, k, none⟩) (Nat.le_trans hBw hg0) (.bool y))
          have H1 := Lib.hid (show (wr.setCell ⟨g, k, none⟩ (.bool y)).heap[w.heap.size]? = some (.cells #[.bool b1, .slice a1 l1 c1] 41 (0, 0)) by rw [Below.heap_setCell _ _ _ _ (by simp only; omega)]; exact h1)
          clear hset ho hlo hbr h1
          go_wp2
          go_roundg (LB - (k + 1))
          case measure => omega
          case rel => exact ⟨k + 1, by omega, by omega, by go_num, HLO.out, HSET.out, H1.out, HB.out⟩
        · have hknI : ¬ ((k : Int) < (n : Int)) := by omega
          go_wp2
          go_roundg (LB - (k + 1))
          case measure => omega
          case rel => exact ⟨k + 1, by omega, by omega, by go_num, hlo, ho, h1, hbr⟩
      · clear hlo
        go_wp2
        go_loopg [37] n (fun q s37 wr => ∃ k : Nat, k ≤ n ∧ n - k ≤ q ∧ s37 = .int .i64 k ∧ OwnB B n (.slice (some ⟨g, 0, none⟩) n n) wr ∧ wr.heap[w.heap.size]? = some (.cells #[.bool b1, .slice a1 l1 c1] 41 (0, 0)) ∧ Below w.heap.size w wr)
        case atStart => exact ⟨0, Nat.zero_le _, by omega, rfl, ho, h1, hbr⟩
        case round =>
          clear h1 hbr ho hk hq hlt
          obtain ⟨k, hk, hq, rfl, ho, h1, hbr⟩ := hrel
          by_cases hkn : k < n
          · have hknI : (k : Int) < (n : Int) := by omega
            go_upto_region 14 with fail
            have hBd : Bxs [(w.heap.size, (.cells #[.bool b1, .slice a1 l1 c1] 41))] w wr.drew := ⟨hbr.drew, fun x hx => by
              simp only [List.mem_cons, List.not_mem_nil, or_false] at hx
              subst hx
              exact h1⟩
            have HOd := Lib.hid (show OwnB B n (.slice (some ⟨g, 0, none⟩) n n) wr.drew from ho)
            clear h1 hbr ho
            refine wp_region_noPanic ?_
            refine wp_region_L (S := fun _ W => Bxs [(w.heap.size, (.cells #[.bool b1, .slice a1 l1 c1] 41))] w W) (by kernel_rfl) ?_
            refine wpAnyL_take (T := fun _ => True) (i := 0) (v := ?vvpb0) rfl (by kernel_rfl) (by kernel_rfl) (by kernel_rfl) (fun _ _ _ h => h) (fun _ _ => Iff.rfl) (fun _ _ _ _ _ => trivial) (Closed.of_B (by kernel_rfl)) (Or.inl ⟨by kernel_rfl, ?hypb0⟩) hBd ?restpb0
            case hypb0 => (intro w _; go_simp; with_reducible rfl)
            go_simp
            refine wpAnyL_take (T := fun _ => True) (i := 1) (v := ?vvpb1) rfl (by kernel_rfl) (by kernel_rfl) (by kernel_rfl) (fun _ _ _ h => h) (fun _ _ => Iff.rfl) (fun _ _ _ _ _ => trivial) (Closed.of_B (by kernel_rfl)) (Or.inl ⟨by kernel_rfl, ?hypb1⟩) hBd ?restpb1
            case hypb1 => (intro w _; go_simp; with_reducible rfl)
            go_simp
            refine wpAnyL_take (T := fun _ => True) (i := 2) (v := ?vvpb2) rfl (by kernel_rfl) (by kernel_rfl) (by kernel_rfl) (fun _ _ _ h => h) (fun _ _ => Iff.rfl) (fun _ _ _ _ _ => trivial) (Closed.of_B (by kernel_rfl)) (Or.inl ⟨by kernel_rfl, ?hypb2⟩) hBd ?restpb2
            case hypb2 => (intro w _; go_simp; with_reducible rfl)
            go_simp
            refine wpAnyL_take (T := fun _ => True) (i := 3) (v := ?vvpb3) rfl (by kernel_rfl) (by kernel_rfl) (by kernel_rfl) (fun _ _ _ h => h) (fun _ _ => Iff.rfl) (fun _ _ _ _ _ => trivial) (Closed.of_B (by kernel_rfl)) (Or.inl ⟨by kernel_rfl, ?hypb3⟩) hBd ?restpb3
            case hypb3 => (intro w _; go_simp; with_reducible rfl)
            go_simp
            refine wpAnyL_take (T := fun _ => True) (i := 4) (v := ?vvpb4) rfl (by kernel_rfl) (by kernel_rfl) (by kernel_rfl) (fun _ _ _ h => h) (fun _ _ => Iff.rfl) (fun _ _ _ _ _ => trivial) (Closed.of_B (by kernel_rfl)) (Or.inl ⟨by kernel_rfl, ?hypb4⟩) hBd ?restpb4
            case hypb4 => (intro w _; go_simp; with_reducible rfl)
            go_simp
            refine wpAnyL_take (T := fun W => Bxs [(w.heap.size, (.cells #[.bool b1, .slice a1 l1 c1] 41))] w W) (i := 6) (v := ?vvpb6) rfl (by kernel_rfl) (by kernel_rfl) (by kernel_rfl) (fun _ _ _ h => h) (fun _ _ => Iff.rfl) (fun _ _ _ _ h => h) (Closed.of_B (by kernel_rfl)) (Or.inl ⟨by kernel_rfl, ?hypb6⟩) hBd ?restpb6
            case hypb6 =>
              intro W hW
              have hx0 := hW.2 ((w.heap.size, (.cells #[.bool b1, .slice a1 l1 c1] 41)) : Nat × Obj) (by simp)
              have dx0x0 := box_cell hx0 0
              have dx0x1 := box_cell hx0 1
              simp only [List.getElem?_toArray, List.getElem?_cons_zero, List.getElem?_cons_succ] at dx0x0 dx0x1
              clear hW
              go_simp; with_reducible rfl
            go_simp
            refine wpAnyL_rows (R := fun i v _ W => match i with | 5 => ∃ b : Bool, v = .bool b | 7 => v = .bool false | 8 => ∃ b : Bool, v = .bool b | 9 => v = .pointer (some ⟨g, k, none⟩) | _ => True) (I := fun _ _ W => Bxs [(w.heap.size, (.cells #[.bool b1, .slice a1 l1 c1] 41))] w W ∧ OwnB B n (.slice (some ⟨g, 0, none⟩) n n) W) [((5, some 45, []), []), ((7, some 47, []), []), ((8, some 48, [5, 7]), [(5, some 45, []), (7, some 47, [])]), ((9, some 49, []), []), ((10, none, [8, 9]), [(8, some 48, [5, 7]), (9, some 49, [])])] (by kernel_rfl) (by decide) (fun _ _ _ h => h.1) (fun _ => ⟨hBd, HOd.out⟩) ?tabpb ?finpb
            case tabpb =>
              refine TabAll.cons rfl (by kernel_rfl) (fun L vs W hsz hcl hn hd hdn hI K hK => ?_) ?_
              · simp only [putsD, Act.put, List.setIfInBounds_toArray, List.set_cons_zero, List.set_cons_succ] at hK ⊢
                clear hd hdn
                obtain ⟨⟨y, hy⟩, -, -, -⟩ := hI.2.store hkn
                go_simp
                refine hK _ (.bool y) _ (by rfl) (fun i u l hij hL h => h) ⟨_, rfl⟩ hI
              refine TabAll.cons rfl (by kernel_rfl) (fun L vs W hsz hcl hn hd hdn hI K hK => ?_) ?_
              · simp only [putsD, Act.put, List.setIfInBounds_toArray, List.set_cons_zero, List.set_cons_succ] at hK ⊢
                clear hd hdn
                go_simp
                refine (HNg.out W hI.1.1).mono ?_
                rintro e W3 ⟨rfl, hb3⟩
                refine hK _ (.bool false) _ (by rfl) (fun i u l hij hL h => ?_) rfl ⟨hI.1.below hb3, hI.2.below hb3⟩
                · match i, hij, hL, h with
                  | 5, _, _, h => exact h
                  | 7, _, _, h => exact h
                  | 8, _, _, h => exact h
                  | 9, _, _, h => exact h
                  | 0, _, _, _ | 1, _, _, _ | 2, _, _, _ | 3, _, _, _ | 4, _, _, _ | 6, _, _, _ | _ + 10, _, _, _ => trivial
              refine TabAll.cons rfl (by kernel_rfl) (fun L vs W hsz hcl hn hd hdn hI K hK => ?_) ?_
              · simp only [putsD, Act.put, List.setIfInBounds_toArray, List.set_cons_zero, List.set_cons_succ] at hK ⊢
                have r5 := hd.1
                have r7 := hd.2.1
                generalize hv5 : vs 5 = v5 at *
                have HV5 := Lib.hid hv5
                clear hv5
                generalize hv7 : vs 7 = v7 at *
                have HV7 := Lib.hid hv7
                clear hv7
                clear hd hdn
                obtain ⟨y, q5⟩ : ∃ b : Bool, v5 = .bool b := r5
                have q7 : v7 = .bool false := r7
                clear r7
                subst q5 q7
                cases y
                all_goals
                  go_simp
                  refine hK _ _ _ (by rfl) (fun i u l hij hL h => h) ⟨_, rfl⟩ hI
              refine TabAll.cons rfl (by kernel_rfl) (fun L vs W hsz hcl hn hd hdn hI K hK => ?_) ?_
              · simp only [putsD, Act.put, List.setIfInBounds_toArray, List.set_cons_zero, List.set_cons_succ] at hK ⊢
                clear hd hdn
                go_simp
                refine hK _ (.pointer (some ⟨g, k, none⟩)) _ (by rfl) (fun i u l hij hL h => h) rfl hI
              refine TabAll.cons rfl (by kernel_rfl) (fun L vs W hsz hcl hn hd hdn hI K hK => ?_) ?_
              · simp only [putsD, Act.put, List.setIfInBounds_toArray, List.set_cons_zero, List.set_cons_succ] at hK ⊢
                have r8 := hd.1
                have r9 := hd.2.1
                generalize hv8 : vs 8 = v8 at *
                have HV8 := Lib.hid hv8
                clear hv8
                generalize hv9 : vs 9 = v9 at *
                have HV9 := Lib.hid hv9
                clear hv9
                clear hd hdn
                have q9 : v9 = .pointer (some ⟨g, k, none⟩) := r9
                clear r9
                subst q9
                obtain ⟨y, q8⟩ : ∃ b : Bool, v8 = .bool b := r8
                subst q8
                obtain ⟨⟨x0, hx0⟩, hf0, hg0, hset⟩ := hI.2.store hkn
                have HSET := Lib.hid (hset y)
                have HI := Lib.hid hI
                clear hset hI
                go_simp
                refine hK _ undef _ (by rfl) (fun i u l hij hL h => ?_) trivial ⟨⟨HI.out.1.1.setCell (p := ⟨g, k, none⟩) (Nat.le_trans hBw hg0) (.bool y), fun x hx => ?_⟩, HSET.out⟩
                · match i, hij, hL, h with
                  | 5, _, _, h => exact h
                  | 7, _, _, h => exact h
                  | 8, _, _, h => exact h
                  | 9, _, _, h => exact h
                  | 10, hij, _, _ => exact absurd rfl hij
                  | 0, _, _, _ | 1, _, _, _ | 2, _, _, _ | 3, _, _, _ | 4, _, _, _ | 6, _, _, _ | _ + 11, _, _, _ => trivial
                · have hx' := HI.out.1.2 x hx
                  simp only [List.mem_cons, List.not_mem_nil, or_false] at hx
                  subst hx
                  simp only at hx' ⊢
                  rw [Below.heap_setCell _ _ _ _ (by simp only; omega)]
                  exact hx'
              exact TabAll.nil
            case finpb =>
              intro vs Wz hd L hsz hall hI
              have r5 := hd.1
              have r7 := hd.2.1
              have r8 := hd.2.2.1
              have r9 := hd.2.2.2.1
              have r10 := hd.2.2.2.2.1
              simp only [List.map_cons, List.map_nil, putsD, Act.put, List.setIfInBounds_toArray, List.set_cons_zero, List.set_cons_succ]
              generalize vs 5 = v5 at *
              generalize vs 7 = v7 at *
              generalize vs 8 = v8 at *
              generalize vs 9 = v9 at *
              generalize vs 10 = v10 at *
              clear hd hall hsz
              refine NoPanic.normal ?_
              have hx2 := hI.1.2 (w.heap.size, (.cells #[.bool b1, .slice a1 l1 c1] 41)) (by simp)
              have hbz := hI.1.1
              have hoz := hI.2
              clear hI r5 r7 r8 r9 r10 hBd HOd
              go_wp2
              go_roundg (n - (k + 1))
              case measure => omega
              case rel => exact ⟨k + 1, by omega, by omega, by go_num, hoz, hx2, hbz⟩
          · have hknI : ¬ ((k : Int) < (n : Int)) := by omega
            go_wp2
            go_ret
            exact ⟨_, rfl, ho.base hBw, hbr⟩

end Go.Proofs.YtpmadgmjkljbgaaDoor
