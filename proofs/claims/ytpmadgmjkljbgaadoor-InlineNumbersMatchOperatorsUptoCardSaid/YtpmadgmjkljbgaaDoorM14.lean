/- Part 14 of the proof. -/
import Derived.Test.YtpmadgmjkljbgaaDoorM13

/- Walk: ValueOk. -/
namespace Go.Proofs.YtpmadgmjkljbgaaDoor
open Go.RowKit

/-- What the later walks want of a value that is valid. -/
def VGood (x : Vl) : Prop := (x.k = 2 → intOk x.nn x.nl = true) ∧ (x.k = 3 → intOk x.nn x.nl = true ∧ intOk x.dn x.dl = true ∧ 0 < x.dl.length ∧ x.dn = false)
theorem vgood_k {k : Int} {nn : Bool} {nl : List Nat} {dn : Bool} {dl : List Nat} {s : ByteArray} {r : Int} (h2 : k ≠ 2) (h3 : k ≠ 3) : VGood ⟨k, nn, nl, dn, dl, s, r⟩ := ⟨fun h => absurd h h2, fun h => absurd h h3⟩
theorem vgood_other {x : Vl} (h2 : x.k ≠ 2) (h3 : x.k ≠ 3) : VGood x := ⟨fun h => absurd h h2, fun h => absurd h h3⟩

theorem rowU_first {w : World} {a : Option Addr} {n c : Nat} {l : List Nat} (h : RowU w (.slice a n c) l) (hi : 0 < l.length) : ∃ (b off y : Nat), a = some ⟨b, off, none⟩ ∧ w.cell? ⟨b, off, none⟩ = some (.int .u32 (y : Int)) := by
  obtain ⟨a', cap, he, _, _, hc⟩ := h
  simp only [Value.slice.injEq] at he
  obtain ⟨rfl, _, rfl⟩ := he
  obtain ⟨b, off, h1, h2⟩ := hc 0 hi
  exact ⟨b, off, _, h1, h2⟩
set_option maxRecDepth 100000 in
set_option maxHeartbeats 8000000 in
theorem ValueOk_any (v : Value) (x : Vl) (w : World) (hv : VlAt w v x) (hin : VlIn x) (hG : Glob w) :
    Calls Tryd.prog 4 #[v] w fun e w' => OkB (VGood x) w e w' := by
  obtain ⟨k, nn, nl, dn, dl, s, r⟩ := x
  obtain ⟨a, b, rfl, hx1, hx2⟩ := hv
  obtain ⟨-, -, -, -, gl, gd, n1, n2, ns⟩ := hin
  simp only at gl gd n1 n2 ns
  replace hx1 : RowU w a nl := hx1
  replace hx2 : RowU w b dl := hx2
  have HE1 := Lib.hid (fun W (h : Below w.heap.size w W) => SameInt_any nn false a (.slice none 0 0) nl [] W (hx1.below h) (RowOf.nil _ _) n1)
  have HE2 := Lib.hid (fun W (h : Below w.heap.size w W) => SameInt_any dn false b (.slice none 0 0) dl [] W (hx2.below h) (RowOf.nil _ _) n2)
  have HI1 := Lib.hid (fun W (h : Below w.heap.size w W) => IntOk_any nn a nl W (hx1.below h) n1)
  have HR := Lib.hid (fun W (h : Below w.heap.size w W) => RatioOk_any nn dn a b nl dl W (hx1.below h) (hx2.below h) gl gd n1 n2)
  have HD := Lib.hid (fun W (h : Below w.heap.size w W) => DottedOk_weak s W ns (hG.below h))
  have HV := Lib.hid (fun W (h : Below w.heap.size w W) => Any.utf8_ValidString Tryd.laysValid s W (by omega) (hG.below h).2)
  have hcl := hx2
  obtain ⟨a1, c1, rfl, -⟩ := hx1
  obtain ⟨a2, c2, rfl, -, -, hc2⟩ := hx2
  have HN := Lib.hid (fun W (h : Below w.heap.size w W) (hi : 0 < dl.length) => rowU_first (hcl.below h) hi)
  clear hcl hc2 gl gd n1 ns hG
  generalize nl.length = m1 at *
  generalize hm2 : dl.length = m2 at *
  have hal1 := ext_alloc w (.cells #[.int .i64 k, .bool nn, .slice a1 m1 c1, .bool dn, .slice a2 m2 c2, .string s, .int .i64 r] 26)
  have hal2 := heap_new w (.cells #[.int .i64 k, .bool nn, .slice a1 m1 c1, .bool dn, .slice a2 m2 c2, .string s, .int .i64 r] 26)
  go_enter Tryd.func4, Tryd.ntmps4
  go_upto_region 1 with fail
  generalize (w.alloc (.cells #[.int .i64 k, .bool nn, .slice a1 m1 c1, .bool dn, .slice a2 m2 c2, .string s, .int .i64 r] 26)) = w1 at *
  have hb1 := hal1
  have h1 := hal2
  clear hal1 hal2
  have hBd : Bxs [(w.heap.size, (.cells #[.int .i64 k, .bool nn, .slice a1 m1 c1, .bool dn, .slice a2 m2 c2, .string s, .int .i64 r] 26))] w w1.drew := ⟨hb1.drew, fun x hx => by
    simp only [List.mem_cons, List.not_mem_nil, or_false] at hx
    subst hx
    exact h1⟩
  clear h1 hb1
  refine wp_region_noPanic ?_
  refine wp_region_L (S := fun _ W => Bxs [(w.heap.size, (.cells #[.int .i64 k, .bool nn, .slice a1 m1 c1, .bool dn, .slice a2 m2 c2, .string s, .int .i64 r] 26))] w W) (by kernel_rfl) ?_
  refine wpAnyL_take (T := fun _ => True) (i := 0) (v := ?vvo0) rfl (by kernel_rfl) (by kernel_rfl) (by kernel_rfl) (fun _ _ _ h => h) (fun _ _ => Iff.rfl) (fun _ _ _ _ _ => trivial) (Closed.of_B (by kernel_rfl)) (Or.inl ⟨by kernel_rfl, ?hyo0⟩) hBd ?resto0
  case hyo0 => (intro w _; go_simp; with_reducible rfl)
  go_simp
  refine wpAnyL_take (T := fun W => Bxs [(w.heap.size, (.cells #[.int .i64 k, .bool nn, .slice a1 m1 c1, .bool dn, .slice a2 m2 c2, .string s, .int .i64 r] 26))] w W) (i := 1) (v := ?vvo1) rfl (by kernel_rfl) (by kernel_rfl) (by kernel_rfl) (fun _ _ _ h => h) (fun _ _ => Iff.rfl) (fun _ _ _ _ h => h) (Closed.of_B (by kernel_rfl)) (Or.inl ⟨by kernel_rfl, ?hyo1⟩) hBd ?resto1
  case hyo1 =>
    intro W hW
    have hx0 := hW.2 ((w.heap.size, (.cells #[.int .i64 k, .bool nn, .slice a1 m1 c1, .bool dn, .slice a2 m2 c2, .string s, .int .i64 r] 26)) : Nat × Obj) (by simp)
    have dx0x1 := box_cell hx0 1
    have dx0x2 := box_cell hx0 2
    simp only [List.getElem?_toArray, List.getElem?_cons_zero, List.getElem?_cons_succ] at dx0x1 dx0x2
    clear hW
    go_simp; with_reducible rfl
  go_simp
  refine wpAnyL_take (T := fun _ => True) (i := 2) (v := ?vvo2) rfl (by kernel_rfl) (by kernel_rfl) (by kernel_rfl) (fun _ _ _ h => h) (fun _ _ => Iff.rfl) (fun _ _ _ _ _ => trivial) (Closed.of_B (by kernel_rfl)) (Or.inl ⟨by kernel_rfl, ?hyo2⟩) hBd ?resto2
  case hyo2 => (intro w _; go_simp; with_reducible rfl)
  go_simp
  refine wpAnyL_take (T := fun _ => True) (i := 4) (v := ?vvo4) rfl (by kernel_rfl) (by kernel_rfl) (by kernel_rfl) (fun _ _ _ h => h) (fun _ _ => Iff.rfl) (fun _ _ _ _ _ => trivial) (Closed.of_B (by kernel_rfl)) (Or.inl ⟨by kernel_rfl, ?hyo4⟩) hBd ?resto4
  case hyo4 => (intro w _; go_simp; with_reducible rfl)
  go_simp
  refine wpAnyL_take (T := fun W => Bxs [(w.heap.size, (.cells #[.int .i64 k, .bool nn, .slice a1 m1 c1, .bool dn, .slice a2 m2 c2, .string s, .int .i64 r] 26))] w W) (i := 5) (v := ?vvo5) rfl (by kernel_rfl) (by kernel_rfl) (by kernel_rfl) (fun _ _ _ h => h) (fun _ _ => Iff.rfl) (fun _ _ _ _ h => h) (Closed.of_B (by kernel_rfl)) (Or.inl ⟨by kernel_rfl, ?hyo5⟩) hBd ?resto5
  case hyo5 =>
    intro W hW
    have hx0 := hW.2 ((w.heap.size, (.cells #[.int .i64 k, .bool nn, .slice a1 m1 c1, .bool dn, .slice a2 m2 c2, .string s, .int .i64 r] 26)) : Nat × Obj) (by simp)
    have dx0x3 := box_cell hx0 3
    have dx0x4 := box_cell hx0 4
    simp only [List.getElem?_toArray, List.getElem?_cons_zero, List.getElem?_cons_succ] at dx0x3 dx0x4
    clear hW
    go_simp; with_reducible rfl
  go_simp
  refine wpAnyL_take (T := fun _ => True) (i := 6) (v := ?vvo6) rfl (by kernel_rfl) (by kernel_rfl) (by kernel_rfl) (fun _ _ _ h => h) (fun _ _ => Iff.rfl) (fun _ _ _ _ _ => trivial) (Closed.of_B (by kernel_rfl)) (Or.inl ⟨by kernel_rfl, ?hyo6⟩) hBd ?resto6
  case hyo6 => (intro w _; go_simp; with_reducible rfl)
  go_simp
  refine wpAnyL_rows (R := fun i v _ W => match i with | 3 => v = .bool (sameI nn nl false []) | 7 => v = .bool (sameI dn dl false []) | 8 => v = .bool (sameI nn nl false []) | 9 => v = .bool (sameI dn dl false []) | _ => True) (I := fun _ _ W => Bxs [(w.heap.size, (.cells #[.int .i64 k, .bool nn, .slice a1 m1 c1, .bool dn, .slice a2 m2 c2, .string s, .int .i64 r] 26))] w W) [((3, some 9, []), []), ((7, some 13, []), []), ((8, some 3, [3]), [(3, some 9, [])]), ((9, some 4, [7]), [(7, some 13, [])])] (by kernel_rfl) (by decide) (fun _ _ _ h => h) (fun _ => hBd) ?tabo ?fino
  case tabo =>
    refine TabAll.cons rfl (by kernel_rfl) (fun L vs W hsz hcl hn hd hdn hI K hK => ?_) ?_
    · simp only [putsD, Act.put, List.setIfInBounds_toArray, List.set_cons_zero, List.set_cons_succ] at hK ⊢
      clear hd hdn
      go_simp
      refine (HE1.out W hI.1).mono ?_
      rintro e W3 ⟨rfl, hb3⟩
      refine hK _ (.bool (sameI nn nl false [])) _ (by rfl) (fun i u l hij hL h => ?_) (rfl) (hI.below hb3)
      · match i, hij, hL, h with
        | 3, _, _, h => exact h
        | 7, _, _, h => exact h
        | 8, _, _, h => exact h
        | 9, _, _, h => exact h
        | 0, _, _, _ | 1, _, _, _ | 2, _, _, _ | 4, _, _, _ | 5, _, _, _ | 6, _, _, _ | _ + 10, _, _, _ => trivial
    refine TabAll.cons rfl (by kernel_rfl) (fun L vs W hsz hcl hn hd hdn hI K hK => ?_) ?_
    · simp only [putsD, Act.put, List.setIfInBounds_toArray, List.set_cons_zero, List.set_cons_succ] at hK ⊢
      clear hd hdn
      go_simp
      refine (HE2.out W hI.1).mono ?_
      rintro e W3 ⟨rfl, hb3⟩
      refine hK _ (.bool (sameI dn dl false [])) _ (by rfl) (fun i u l hij hL h => ?_) (rfl) (hI.below hb3)
      · match i, hij, hL, h with
        | 3, _, _, h => exact h
        | 7, _, _, h => exact h
        | 8, _, _, h => exact h
        | 9, _, _, h => exact h
        | 0, _, _, _ | 1, _, _, _ | 2, _, _, _ | 4, _, _, _ | 5, _, _, _ | 6, _, _, _ | _ + 10, _, _, _ => trivial
    refine TabAll.cons rfl (by kernel_rfl) (fun L vs W hsz hcl hn hd hdn hI K hK => ?_) ?_
    · simp only [putsD, Act.put, List.setIfInBounds_toArray, List.set_cons_zero, List.set_cons_succ] at hK ⊢
      have r3 := hd.1
      generalize hv3 : vs 3 = v3 at *
      have HV3 := Lib.hid hv3
      clear hv3
      clear hd hdn
      have q3 : v3 = .bool (sameI nn nl false []) := r3
      clear r3
      subst q3
      go_simp
      refine hK _ (.bool (sameI nn nl false [])) _ (by rfl) (fun i u l hij hL h => h) rfl hI
    refine TabAll.cons rfl (by kernel_rfl) (fun L vs W hsz hcl hn hd hdn hI K hK => ?_) ?_
    · simp only [putsD, Act.put, List.setIfInBounds_toArray, List.set_cons_zero, List.set_cons_succ] at hK ⊢
      have r7 := hd.1
      generalize hv7 : vs 7 = v7 at *
      have HV7 := Lib.hid hv7
      clear hv7
      clear hd hdn
      have q7 : v7 = .bool (sameI dn dl false []) := r7
      clear r7
      subst q7
      go_simp
      refine hK _ (.bool (sameI dn dl false [])) _ (by rfl) (fun i u l hij hL h => h) rfl hI
    exact TabAll.nil
  case fino =>
    intro vs Wz hd L hsz hall hI
    have r3 := hd.1
    have r7 := hd.2.1
    have r8 := hd.2.2.1
    have r9 := hd.2.2.2.1
    simp only [List.map_cons, List.map_nil, putsD, Act.put, List.setIfInBounds_toArray, List.set_cons_zero, List.set_cons_succ]
    generalize vs 3 = v3 at *
    generalize vs 7 = v7 at *
    generalize vs 8 = v8 at *
    generalize vs 9 = v9 at *
    clear hd hall hsz
    refine NoPanic.normal ?_
    have q8 : v8 = .bool (sameI nn nl false []) := r8
    have q9 : v9 = .bool (sameI dn dl false []) := r9
    clear r3 r7 r8 r9
    subst q8 q9
    generalize sameI nn nl false [] = B1 at *
    generalize sameI dn dl false [] = B2 at *
    have HB := Lib.hid hI
    clear hI hBd HE1 HE2
    have hx := HB.out.2 (w.heap.size, (.cells #[.int .i64 k, .bool nn, .slice a1 m1 c1, .bool dn, .slice a2 m2 c2, .string s, .int .i64 r] 26)) (by simp)
    have d0 := box_cell hx 0
    have d1 := box_cell hx 1
    have d2 := box_cell hx 2
    have d3 := box_cell hx 3
    have d4 := box_cell hx 4
    have d5 := box_cell hx 5
    have d6 := box_cell hx 6
    simp only [List.getElem?_toArray, List.getElem?_cons_zero, List.getElem?_cons_succ] at d0 d1 d2 d3 d4 d5 d6
    clear hx
    by_cases hk0 : k = 0
    · subst hk0
      clear HI1 HR HD HV HN
      cases B1 <;> cases B2
      all_goals
        go_wp2
        all_goals
          go_ret
          exact ⟨_, rfl, fun _ => (vgood_k (by decide) (by decide)), HB.out.1⟩
    · have hne0 : (k == 0) = false := by simpa using hk0
      by_cases hk8 : k = 8
      · subst hk8
        clear HI1 HR HD HV HN
        cases B1 <;> cases B2
        all_goals
          go_wp2
          all_goals
            go_ret
            exact ⟨_, rfl, fun _ => (vgood_k (by decide) (by decide)), HB.out.1⟩
      · have hne8 : (k == 8) = false := by simpa using hk8
        by_cases hk1 : k = 1
        · subst hk1
          clear HI1 HR HD HV HN
          cases B1 <;> cases B2
          all_goals
            go_wp2
            all_goals
              go_ret
              exact ⟨_, rfl, fun _ => (vgood_k (by decide) (by decide)), HB.out.1⟩
        · have hne1 : (k == 1) = false := by simpa using hk1
          by_cases hk2 : k = 2
          · subst hk2
            clear HR HD HV HN
            cases k1 : intOk nn nl with
            | false =>
              rw [k1] at HI1
              clear k1
              go_wp2_with fail
              refine (HI1.out _ HB.out.1).mono ?_
              rintro e w2 ⟨rfl, hb2⟩
              replace HB := Lib.hid (HB.out.below hb2)
              go_wp2
              all_goals
                go_ret
                exact ⟨_, rfl, fun h => (by cases h), HB.out.1⟩
            | true =>
              rw [k1] at HI1
              have HF := Lib.hid (show VGood ⟨2, nn, nl, dn, dl, s, r⟩ from ⟨fun _ => k1, fun h => absurd h (show (2 : Int) ≠ 3 by decide)⟩)
              clear k1
              go_wp2_with fail
              refine (HI1.out _ HB.out.1).mono ?_
              rintro e w2 ⟨rfl, hb2⟩
              replace HB := Lib.hid (HB.out.below hb2)
              clear d0 d1 d2 d3 d4 d5 d6
              have hx := HB.out.2 (w.heap.size, (.cells #[.int .i64 2, .bool nn, .slice a1 m1 c1, .bool dn, .slice a2 m2 c2, .string s, .int .i64 r] 26)) (by simp)
              have d0 := box_cell hx 0
              have d1 := box_cell hx 1
              have d2 := box_cell hx 2
              have d3 := box_cell hx 3
              have d4 := box_cell hx 4
              have d5 := box_cell hx 5
              have d6 := box_cell hx 6
              simp only [List.getElem?_toArray, List.getElem?_cons_zero, List.getElem?_cons_succ] at d0 d1 d2 d3 d4 d5 d6
              clear hx
              cases B2
              all_goals
                go_wp2
                all_goals
                  go_ret
                  exact ⟨_, rfl, fun _ => HF.out, HB.out.1⟩
          · have hne2 : (k == 2) = false := by simpa using hk2
            by_cases hk3 : k = 3
            · subst hk3
              clear HI1 HD HV
              have HM2 := Lib.hid hm2
              by_cases h1m : m2 = 1
              · obtain ⟨bq, oq, y, rfl, hy⟩ := HN.out _ HB.out.1 (by omega)
                clear HN
                subst h1m
                clear hm2
                by_cases hy1 : y = 1
                · subst hy1
                  go_wp2_with fail
                  refine (HR.out _ HB.out.1).mono ?_
                  rintro e w2 ⟨bb, rfl, hP, hb2⟩
                  have HP := Lib.hid hP
                  clear hP
                  replace HB := Lib.hid (HB.out.below hb2)
                  clear d0 d1 d2 d3 d4 d5 d6
                  have hx := HB.out.2 (w.heap.size, (.cells #[.int .i64 3, .bool nn, .slice a1 m1 c1, .bool dn, .slice (some ⟨bq, oq, none⟩) 1 c2, .string s, .int .i64 r] 26)) (by simp)
                  have d0 := box_cell hx 0
                  have d1 := box_cell hx 1
                  have d2 := box_cell hx 2
                  have d3 := box_cell hx 3
                  have d4 := box_cell hx 4
                  have d5 := box_cell hx 5
                  have d6 := box_cell hx 6
                  simp only [List.getElem?_toArray, List.getElem?_cons_zero, List.getElem?_cons_succ] at d0 d1 d2 d3 d4 d5 d6
                  clear hx
                  cases bb
                  · go_wp2
                    all_goals
                      go_ret
                      exact ⟨_, rfl, fun h => (by cases h), HB.out.1⟩
                  · have HF := Lib.hid (show VGood ⟨3, nn, nl, dn, dl, s, r⟩ from ⟨fun h => absurd h (show (3 : Int) ≠ 2 by decide), fun _ => ⟨(HP.out rfl).1, (HP.out rfl).2.1, by rw [HM2.out]; exact (HP.out rfl).2.2.1, (HP.out rfl).2.2.2⟩⟩)
                    go_wp2
                    all_goals
                      go_ret
                      exact ⟨_, rfl, fun _ => HF.out, HB.out.1⟩
                · have hy1' : ((y : Int) == 1) = false := by rw [beq_eq_false_iff_ne]; omega
                  have hy2' : (y == 1) = false := by simpa using hy1
                  clear hy1
                  go_wp2_with fail
                  refine (HR.out _ HB.out.1).mono ?_
                  rintro e w2 ⟨bb, rfl, hP, hb2⟩
                  have HP := Lib.hid hP
                  clear hP
                  replace HB := Lib.hid (HB.out.below hb2)
                  clear d0 d1 d2 d3 d4 d5 d6
                  have hx := HB.out.2 (w.heap.size, (.cells #[.int .i64 3, .bool nn, .slice a1 m1 c1, .bool dn, .slice (some ⟨bq, oq, none⟩) 1 c2, .string s, .int .i64 r] 26)) (by simp)
                  have d0 := box_cell hx 0
                  have d1 := box_cell hx 1
                  have d2 := box_cell hx 2
                  have d3 := box_cell hx 3
                  have d4 := box_cell hx 4
                  have d5 := box_cell hx 5
                  have d6 := box_cell hx 6
                  simp only [List.getElem?_toArray, List.getElem?_cons_zero, List.getElem?_cons_succ] at d0 d1 d2 d3 d4 d5 d6
                  clear hx
                  cases bb
                  · go_wp2
                    all_goals
                      go_ret
                      exact ⟨_, rfl, fun h => (by cases h), HB.out.1⟩
                  · have HF := Lib.hid (show VGood ⟨3, nn, nl, dn, dl, s, r⟩ from ⟨fun h => absurd h (show (3 : Int) ≠ 2 by decide), fun _ => ⟨(HP.out rfl).1, (HP.out rfl).2.1, by rw [HM2.out]; exact (HP.out rfl).2.2.1, (HP.out rfl).2.2.2⟩⟩)
                    go_wp2
                    all_goals
                      go_ret
                      exact ⟨_, rfl, fun _ => HF.out, HB.out.1⟩
              · have h1m' : ((m2 : Int) == 1) = false := by rw [beq_eq_false_iff_ne]; omega
                clear HN h1m hm2
                go_wp2_with fail
                refine (HR.out _ HB.out.1).mono ?_
                rintro e w2 ⟨bb, rfl, hP, hb2⟩
                have HP := Lib.hid hP
                clear hP
                replace HB := Lib.hid (HB.out.below hb2)
                clear d0 d1 d2 d3 d4 d5 d6
                have hx := HB.out.2 (w.heap.size, (.cells #[.int .i64 3, .bool nn, .slice a1 m1 c1, .bool dn, .slice a2 m2 c2, .string s, .int .i64 r] 26)) (by simp)
                have d0 := box_cell hx 0
                have d1 := box_cell hx 1
                have d2 := box_cell hx 2
                have d3 := box_cell hx 3
                have d4 := box_cell hx 4
                have d5 := box_cell hx 5
                have d6 := box_cell hx 6
                simp only [List.getElem?_toArray, List.getElem?_cons_zero, List.getElem?_cons_succ] at d0 d1 d2 d3 d4 d5 d6
                clear hx
                cases bb
                · go_wp2
                  all_goals
                    go_ret
                    exact ⟨_, rfl, fun h => (by cases h), HB.out.1⟩
                · have HF := Lib.hid (show VGood ⟨3, nn, nl, dn, dl, s, r⟩ from ⟨fun h => absurd h (show (3 : Int) ≠ 2 by decide), fun _ => ⟨(HP.out rfl).1, (HP.out rfl).2.1, by rw [HM2.out]; exact (HP.out rfl).2.2.1, (HP.out rfl).2.2.2⟩⟩)
                  go_wp2
                  all_goals
                    go_ret
                    exact ⟨_, rfl, fun _ => HF.out, HB.out.1⟩
            · have hne3 : (k == 3) = false := by simpa using hk3
              by_cases hk4 : k = 4
              · subst hk4
                clear HI1 HR HD HN
                by_cases hr : r = 0
                · subst hr
                  cases B1
                  · go_wp2
                    all_goals
                      go_ret
                      exact ⟨_, rfl, fun _ => (vgood_k (by decide) (by decide)), HB.out.1⟩
                  cases B2
                  · go_wp2
                    all_goals
                      go_ret
                      exact ⟨_, rfl, fun _ => (vgood_k (by decide) (by decide)), HB.out.1⟩
                  go_wp2_with fail
                  refine (HV.out _ HB.out.1).mono ?_
                  rintro e w2 ⟨rfl, hb2⟩
                  replace HB := Lib.hid (HB.out.below hb2)
                  clear d0 d1 d2 d3 d4 d5 d6
                  have hx := HB.out.2 (w.heap.size, (.cells #[.int .i64 4, .bool nn, .slice a1 m1 c1, .bool dn, .slice a2 m2 c2, .string s, .int .i64 0] 26)) (by simp)
                  have d0 := box_cell hx 0
                  have d1 := box_cell hx 1
                  have d2 := box_cell hx 2
                  have d3 := box_cell hx 3
                  have d4 := box_cell hx 4
                  have d5 := box_cell hx 5
                  have d6 := box_cell hx 6
                  simp only [List.getElem?_toArray, List.getElem?_cons_zero, List.getElem?_cons_succ] at d0 d1 d2 d3 d4 d5 d6
                  clear hx
                  generalize Lib.validD s.data.toList = V
                  cases V
                  all_goals
                    go_wp2
                    all_goals
                      go_ret
                      exact ⟨_, rfl, fun _ => (vgood_k (by decide) (by decide)), HB.out.1⟩
                · have hr' : (r == 0) = false := by simpa using hr
                  cases B1 <;> cases B2
                  all_goals
                    go_wp2
                    all_goals
                      go_ret
                      exact ⟨_, rfl, fun _ => (vgood_k (by decide) (by decide)), HB.out.1⟩
              · have hne4 : (k == 4) = false := by simpa using hk4
                by_cases hk5 : k = 5
                · subst hk5
                  clear HI1 HR HD HV HN
                  cases B1 <;> cases B2
                  all_goals
                    go_wp2
                    all_goals
                      go_ret
                      exact ⟨_, rfl, fun _ => (vgood_k (by decide) (by decide)), HB.out.1⟩
                · have hne5 : (k == 5) = false := by simpa using hk5
                  by_cases hk7 : k = 7
                  · subst hk7
                    clear HI1 HR HV HN
                    by_cases hr : r = 0
                    · subst hr
                      cases B1
                      · go_wp2
                        all_goals
                          go_ret
                          exact ⟨_, rfl, fun _ => (vgood_k (by decide) (by decide)), HB.out.1⟩
                      cases B2
                      · go_wp2
                        all_goals
                          go_ret
                          exact ⟨_, rfl, fun _ => (vgood_k (by decide) (by decide)), HB.out.1⟩
                      go_wp2_with fail
                      refine (HD.out _ HB.out.1).mono ?_
                      rintro e w2 ⟨bb, rfl, -, hb2⟩
                      replace HB := Lib.hid (HB.out.below hb2)
                      clear d0 d1 d2 d3 d4 d5 d6
                      have hx := HB.out.2 (w.heap.size, (.cells #[.int .i64 7, .bool nn, .slice a1 m1 c1, .bool dn, .slice a2 m2 c2, .string s, .int .i64 0] 26)) (by simp)
                      have d0 := box_cell hx 0
                      have d1 := box_cell hx 1
                      have d2 := box_cell hx 2
                      have d3 := box_cell hx 3
                      have d4 := box_cell hx 4
                      have d5 := box_cell hx 5
                      have d6 := box_cell hx 6
                      simp only [List.getElem?_toArray, List.getElem?_cons_zero, List.getElem?_cons_succ] at d0 d1 d2 d3 d4 d5 d6
                      clear hx
                      go_wp2
                      all_goals
                        go_ret
                        exact ⟨_, rfl, fun _ => (vgood_k (by decide) (by decide)), HB.out.1⟩
                    · have hr' : (r == 0) = false := by simpa using hr
                      cases B1 <;> cases B2
                      all_goals
                        go_wp2
                        all_goals
                          go_ret
                          exact ⟨_, rfl, fun _ => (vgood_k (by decide) (by decide)), HB.out.1⟩
                  · have hne7 : (k == 7) = false := by simpa using hk7
                    by_cases hk6 : k = 6
                    · subst hk6
                      clear HI1 HR HD HV HN
                      cases B1 <;> cases B2
                      all_goals
                        go_wp2
                        all_goals
                          go_ret
                          exact ⟨_, rfl, fun _ => (vgood_k (by decide) (by decide)), HB.out.1⟩
                    · have hne6 : (k == 6) = false := by simpa using hk6
                      clear HI1 HR HD HV HN
                      have HF := Lib.hid (show VGood ⟨k, nn, nl, dn, dl, s, r⟩ from vgood_other hk2 hk3)
                      clear hk0 hk8 hk1 hk2 hk3 hk4 hk5 hk7 hk6
                      go_wp2
                      go_ret
                      exact ⟨_, rfl, fun _ => HF.out, HB.out.1⟩

end Go.Proofs.YtpmadgmjkljbgaaDoor

/- Walks: inline.small, inline.Compare; the law's small and half. -/
namespace Go.Proofs.YtpmadgmjkljbgaaDoor
open Go.RowKit

/-- An integer of at most one limb. -/
def smallV (x : Vl) : Bool := decide (x.k = 2) && decide (x.nl.length ≤ 1)
/-- Its value. -/
def smallZ (x : Vl) : Int := if smallV x then ZI x.nn (x.nl.headD 0) else 0
theorem smallZ_eq {x : Vl} (h : smallV x = true) : smallZ x = ZI x.nn (VL x.nl) := by
  unfold smallZ
  rw [if_pos h]
  unfold smallV at h
  rw [Bool.and_eq_true, decide_eq_true_eq, decide_eq_true_eq] at h
  match hl : x.nl, h.2 with
  | [], _ => rfl
  | [d], _ => simp [VL]

theorem rowU_head {w : World} {a : Option Addr} {n c : Nat} {l : List Nat} (h : RowU w (.slice a n c) l) (hi : 0 < l.length) : ∃ (b off : Nat), a = some ⟨b, off, none⟩ ∧ w.cell? ⟨b, off, none⟩ = some (.int .u32 ((l.headD 0 : Nat) : Int)) := by
  obtain ⟨a', cap, he, _, _, hc⟩ := h
  simp only [Value.slice.injEq] at he
  obtain ⟨rfl, _, rfl⟩ := he
  obtain ⟨b, off, h1, h2⟩ := hc 0 hi
  refine ⟨b, off, h1, ?_⟩
  have : l.headD 0 = l[0] := by
    match l, hi with
    | d :: l, _ => rfl
  rw [this]; exact h2
theorem rowU_one {w : World} {bq oq y : Nat} (h : ∃ (b off : Nat), (some ⟨bq, oq, none⟩ : Option Addr) = some ⟨b, off, none⟩ ∧ w.cell? ⟨b, off, none⟩ = some (.int .u32 (([y].headD 0 : Nat) : Int))) : w.cell? ⟨bq, oq, none⟩ = some (.int .u32 (y : Int)) := by
  obtain ⟨b, off, h1, h2⟩ := h
  simp only [Option.some.injEq, Addr.mk.injEq, and_true] at h1
  obtain ⟨rfl, rfl⟩ := h1
  exact h2
set_option maxRecDepth 100000 in
set_option maxHeartbeats 2000000 in
theorem smallI_any (v : Value) (x : Vl) (w : World) (hv : VlAt w v x) (hg : Lg x.nl) :
    Calls Tryd.prog 18 #[v] w fun e w' => e = .returned (.tuple #[.int .i64 (smallZ x), .bool (smallV x)]) ∧ Below w.heap.size w w' := by
  obtain ⟨k, nn, nl, dn, dl, s, r⟩ := x
  obtain ⟨a, b, rfl, hx1, hx2⟩ := hv
  replace hx1 : RowU w a nl := hx1
  replace hx2 : RowU w b dl := hx2
  have hcl := hx1
  obtain ⟨a1, c1, rfl, -⟩ := hx1
  have HC := Lib.hid (fun W (h : Below w.heap.size w W) (hi : 0 < nl.length) => rowU_head (hcl.below h) hi)
  clear hcl
  obtain ⟨a2, c2, rfl, -⟩ := hx2
  generalize dl.length = m2 at *
  have hgl : Lg nl := hg
  clear hg
  by_cases hk : k = 2
  · subst hk
    by_cases hl : nl.length ≤ 1
    · have HS := Lib.hid (show smallV ⟨2, nn, nl, dn, dl, s, r⟩ = true by unfold smallV; simp [hl])
      by_cases h0 : nl.length = 0
      · have HZ := Lib.hid (show smallZ ⟨2, nn, nl, dn, dl, s, r⟩ = 0 by unfold smallZ; rw [if_pos HS.out]; simp only; rw [List.length_eq_zero_iff.1 h0]; cases nn <;> rfl)
        clear HC hl hgl
        rw [h0]
        have hal1 := ext_alloc w (.cells #[.int .i64 2, .bool nn, .slice a1 0 c1, .bool dn, .slice a2 m2 c2, .string s, .int .i64 r] 26)
        have hal2 := heap_new w (.cells #[.int .i64 2, .bool nn, .slice a1 0 c1, .bool dn, .slice a2 m2 c2, .string s, .int .i64 r] 26)
        go_enter Tryd.func18, Tryd.ntmps18
        go_upto_region 1 with fail
        generalize (w.alloc (.cells #[.int .i64 2, .bool nn, .slice a1 0 c1, .bool dn, .slice a2 m2 c2, .string s, .int .i64 r] 26)) = w1 at *
        have hb1 := hal1
        have h1 := hal2
        clear hal1 hal2
        have d0 := box_cell h1 0
        have d1 := box_cell h1 1
        have d2 := box_cell h1 2
        have d3 := box_cell h1 3
        have d4 := box_cell h1 4
        have d5 := box_cell h1 5
        have d6 := box_cell h1 6
        simp only [List.getElem?_toArray, List.getElem?_cons_zero, List.getElem?_cons_succ] at d0 d1 d2 d3 d4 d5 d6
        cases nn
        · go_wp2
          exact bodyPost_ret (v := .tuple #[.int .i64 0, .bool true]) (by simp [results, Tryd.results18, go_sem]) rfl ⟨by rw [HS.out, HZ.out], hb1⟩
        · go_wp2
          exact bodyPost_ret (v := .tuple #[.int .i64 0, .bool true]) (by simp [results, Tryd.results18, go_sem]) rfl ⟨by rw [HS.out, HZ.out], hb1⟩
      · obtain ⟨y, rfl⟩ : ∃ y, nl = [y] := by
          match nl, hl, h0 with
          | [y], _, _ => exact ⟨y, rfl⟩
        have hy : y < 4294967296 := hgl y (by simp)
        have hy0 : (0 : Int) ≤ (y : Int) := by omega
        have hyI : (y : Int) ≤ 4294967295 := by omega
        have hcv : IntKind.i64.wrap (y : Int) = (y : Int) := IntWalk.i64_in _ (by omega)
        have hcn : IntKind.i64.wrap (-(y : Int)) = -(y : Int) := IntWalk.i64_in _ (by omega)
        obtain ⟨bq, oq, ha1, -⟩ := HC.out w (Below.refl _ _) (by simp)
        subst ha1
        have HC2 := Lib.hid (fun W (h : Below w.heap.size w W) => rowU_one (HC.out W h (by simp)))
        clear HC hl h0 hgl
        have hal1 := ext_alloc w (.cells #[.int .i64 2, .bool nn, .slice (some ⟨bq, oq, none⟩) [y].length c1, .bool dn, .slice a2 m2 c2, .string s, .int .i64 r] 26)
        have hal2 := heap_new w (.cells #[.int .i64 2, .bool nn, .slice (some ⟨bq, oq, none⟩) [y].length c1, .bool dn, .slice a2 m2 c2, .string s, .int .i64 r] 26)
        go_enter Tryd.func18, Tryd.ntmps18
        go_upto_region 1 with fail
        generalize (w.alloc (.cells #[.int .i64 2, .bool nn, .slice (some ⟨bq, oq, none⟩) [y].length c1, .bool dn, .slice a2 m2 c2, .string s, .int .i64 r] 26)) = w1 at *
        have hb1 := hal1
        have h1 := hal2
        clear hal1 hal2
        have d0 := box_cell h1 0
        have d1 := box_cell h1 1
        have d2 := box_cell h1 2
        have d3 := box_cell h1 3
        have d4 := box_cell h1 4
        have d5 := box_cell h1 5
        have d6 := box_cell h1 6
        simp only [List.getElem?_toArray, List.getElem?_cons_zero, List.getElem?_cons_succ] at d0 d1 d2 d3 d4 d5 d6
        have z1 := HC2.out w1 hb1
        cases nn
        · have HZ := Lib.hid (show smallZ ⟨2, false, [y], dn, dl, s, r⟩ = (y : Int) by unfold smallZ; rw [if_pos HS.out]; rfl)
          go_wp2
          exact bodyPost_ret (v := .tuple #[.int .i64 (y : Int), .bool true]) (by simp [results, Tryd.results18, go_sem]) rfl ⟨by rw [HS.out, HZ.out], hb1⟩
        · have HZ := Lib.hid (show smallZ ⟨2, true, [y], dn, dl, s, r⟩ = -(y : Int) by unfold smallZ; rw [if_pos HS.out]; rfl)
          go_wp2
          exact bodyPost_ret (v := .tuple #[.int .i64 (-(y : Int)), .bool true]) (by simp [results, Tryd.results18, go_sem]) rfl ⟨by rw [HS.out, HZ.out], hb1⟩
    · have HS := Lib.hid (show smallV ⟨2, nn, nl, dn, dl, s, r⟩ = false by unfold smallV; simp [hl])
      have HZ := Lib.hid (show smallZ ⟨2, nn, nl, dn, dl, s, r⟩ = 0 by unfold smallZ; rw [HS.out]; rfl)
      have hlI : (1 : Int) < (nl.length : Int) := by omega
      clear HC hgl hl
      generalize nl.length = m1 at *
      have hal1 := ext_alloc w (.cells #[.int .i64 2, .bool nn, .slice a1 m1 c1, .bool dn, .slice a2 m2 c2, .string s, .int .i64 r] 26)
      have hal2 := heap_new w (.cells #[.int .i64 2, .bool nn, .slice a1 m1 c1, .bool dn, .slice a2 m2 c2, .string s, .int .i64 r] 26)
      go_enter Tryd.func18, Tryd.ntmps18
      go_upto_region 1 with fail
      generalize (w.alloc (.cells #[.int .i64 2, .bool nn, .slice a1 m1 c1, .bool dn, .slice a2 m2 c2, .string s, .int .i64 r] 26)) = w1 at *
      have hb1 := hal1
      have h1 := hal2
      clear hal1 hal2
      have d0 := box_cell h1 0
      have d1 := box_cell h1 1
      have d2 := box_cell h1 2
      have d3 := box_cell h1 3
      have d4 := box_cell h1 4
      have d5 := box_cell h1 5
      have d6 := box_cell h1 6
      simp only [List.getElem?_toArray, List.getElem?_cons_zero, List.getElem?_cons_succ] at d0 d1 d2 d3 d4 d5 d6
      go_wp2
      exact bodyPost_ret (v := .tuple #[.int .i64 0, .bool false]) (by simp [results, Tryd.results18, go_sem]) rfl ⟨by rw [HS.out, HZ.out], hb1⟩
  · have HS := Lib.hid (show smallV ⟨k, nn, nl, dn, dl, s, r⟩ = false by unfold smallV; simp [hk])
    have HZ := Lib.hid (show smallZ ⟨k, nn, nl, dn, dl, s, r⟩ = 0 by unfold smallZ; rw [HS.out]; rfl)
    have hk' : (k != 2) = true := by simpa using hk
    clear HC hgl hk
    generalize nl.length = m1 at *
    have hal1 := ext_alloc w (.cells #[.int .i64 k, .bool nn, .slice a1 m1 c1, .bool dn, .slice a2 m2 c2, .string s, .int .i64 r] 26)
    have hal2 := heap_new w (.cells #[.int .i64 k, .bool nn, .slice a1 m1 c1, .bool dn, .slice a2 m2 c2, .string s, .int .i64 r] 26)
    go_enter Tryd.func18, Tryd.ntmps18
    go_upto_region 1 with fail
    generalize (w.alloc (.cells #[.int .i64 k, .bool nn, .slice a1 m1 c1, .bool dn, .slice a2 m2 c2, .string s, .int .i64 r] 26)) = w1 at *
    have hb1 := hal1
    have h1 := hal2
    clear hal1 hal2
    have d0 := box_cell h1 0
    have d1 := box_cell h1 1
    have d2 := box_cell h1 2
    have d3 := box_cell h1 3
    have d4 := box_cell h1 4
    have d5 := box_cell h1 5
    have d6 := box_cell h1 6
    simp only [List.getElem?_toArray, List.getElem?_cons_zero, List.getElem?_cons_succ] at d0 d1 d2 d3 d4 d5 d6
    go_wp2
    exact bodyPost_ret (v := .tuple #[.int .i64 0, .bool false]) (by simp [results, Tryd.results18, go_sem]) rfl ⟨by rw [HS.out, HZ.out], hb1⟩

set_option maxRecDepth 100000 in
set_option maxHeartbeats 2000000 in
theorem smallL_any (v : Value) (x : Vl) (w : World) (hv : VlAt w v x) (hg : Lg x.nl) :
    Calls Tryd.prog 6 #[v] w fun e w' => e = .returned (.bool (smallV x)) ∧ Below w.heap.size w w' := by
  obtain ⟨k, nn, nl, dn, dl, s, r⟩ := x
  obtain ⟨a, b, rfl, hx1, hx2⟩ := hv
  replace hx1 : RowU w a nl := hx1
  replace hx2 : RowU w b dl := hx2
  obtain ⟨a1, c1, rfl, -⟩ := hx1
  obtain ⟨a2, c2, rfl, -⟩ := hx2
  generalize dl.length = m2 at *
  clear hg
  by_cases hk : k = 2
  · subst hk
    by_cases hl : nl.length ≤ 1
    · have HS := Lib.hid (show smallV ⟨2, nn, nl, dn, dl, s, r⟩ = true by unfold smallV; simp [hl])
      have hlI : (nl.length : Int) ≤ 1 := by omega
      clear hl
      generalize nl.length = m1 at *
      have hal1 := ext_alloc w (.cells #[.int .i64 2, .bool nn, .slice a1 m1 c1, .bool dn, .slice a2 m2 c2, .string s, .int .i64 r] 26)
      have hal2 := heap_new w (.cells #[.int .i64 2, .bool nn, .slice a1 m1 c1, .bool dn, .slice a2 m2 c2, .string s, .int .i64 r] 26)
      go_enter Tryd.func6, Tryd.ntmps6
      go_upto_region 1 with fail
      generalize (w.alloc (.cells #[.int .i64 2, .bool nn, .slice a1 m1 c1, .bool dn, .slice a2 m2 c2, .string s, .int .i64 r] 26)) = w1 at *
      have hb1 := hal1
      have h1 := hal2
      clear hal1 hal2
      have d0 := box_cell h1 0
      have d1 := box_cell h1 1
      have d2 := box_cell h1 2
      have d3 := box_cell h1 3
      have d4 := box_cell h1 4
      have d5 := box_cell h1 5
      have d6 := box_cell h1 6
      simp only [List.getElem?_toArray, List.getElem?_cons_zero, List.getElem?_cons_succ] at d0 d1 d2 d3 d4 d5 d6
      go_wp2
      go_ret
      exact ⟨ret_bool HS.out.symm, hb1⟩
    · have HS := Lib.hid (show smallV ⟨2, nn, nl, dn, dl, s, r⟩ = false by unfold smallV; simp [hl])
      have hlI : ¬ ((nl.length : Int) ≤ 1) := by omega
      clear hl
      generalize nl.length = m1 at *
      have hal1 := ext_alloc w (.cells #[.int .i64 2, .bool nn, .slice a1 m1 c1, .bool dn, .slice a2 m2 c2, .string s, .int .i64 r] 26)
      have hal2 := heap_new w (.cells #[.int .i64 2, .bool nn, .slice a1 m1 c1, .bool dn, .slice a2 m2 c2, .string s, .int .i64 r] 26)
      go_enter Tryd.func6, Tryd.ntmps6
      go_upto_region 1 with fail
      generalize (w.alloc (.cells #[.int .i64 2, .bool nn, .slice a1 m1 c1, .bool dn, .slice a2 m2 c2, .string s, .int .i64 r] 26)) = w1 at *
      have hb1 := hal1
      have h1 := hal2
      clear hal1 hal2
      have d0 := box_cell h1 0
      have d1 := box_cell h1 1
      have d2 := box_cell h1 2
      have d3 := box_cell h1 3
      have d4 := box_cell h1 4
      have d5 := box_cell h1 5
      have d6 := box_cell h1 6
      simp only [List.getElem?_toArray, List.getElem?_cons_zero, List.getElem?_cons_succ] at d0 d1 d2 d3 d4 d5 d6
      go_wp2
      go_ret
      exact ⟨ret_bool HS.out.symm, hb1⟩
  · have HS := Lib.hid (show smallV ⟨k, nn, nl, dn, dl, s, r⟩ = false by unfold smallV; simp [hk])
    have hk' : (k == 2) = false := by simpa using hk
    clear hk
    generalize nl.length = m1 at *
    have hal1 := ext_alloc w (.cells #[.int .i64 k, .bool nn, .slice a1 m1 c1, .bool dn, .slice a2 m2 c2, .string s, .int .i64 r] 26)
    have hal2 := heap_new w (.cells #[.int .i64 k, .bool nn, .slice a1 m1 c1, .bool dn, .slice a2 m2 c2, .string s, .int .i64 r] 26)
    go_enter Tryd.func6, Tryd.ntmps6
    go_upto_region 1 with fail
    generalize (w.alloc (.cells #[.int .i64 k, .bool nn, .slice a1 m1 c1, .bool dn, .slice a2 m2 c2, .string s, .int .i64 r] 26)) = w1 at *
    have hb1 := hal1
    have h1 := hal2
    clear hal1 hal2
    have d0 := box_cell h1 0
    have d1 := box_cell h1 1
    have d2 := box_cell h1 2
    have d3 := box_cell h1 3
    have d4 := box_cell h1 4
    have d5 := box_cell h1 5
    have d6 := box_cell h1 6
    simp only [List.getElem?_toArray, List.getElem?_cons_zero, List.getElem?_cons_succ] at d0 d1 d2 d3 d4 d5 d6
    go_wp2
    go_ret
    exact ⟨ret_bool HS.out.symm, hb1⟩

def halfV (x : Vl) : Bool := decide (x.nl.length = 0) || decide (x.nl.headD 0 < 2147483648)
theorem rowU_same {w : World} {bq oq : Nat} {v : Value} (h : ∃ (b off : Nat), (some ⟨bq, oq, none⟩ : Option Addr) = some ⟨b, off, none⟩ ∧ w.cell? ⟨b, off, none⟩ = some v) : w.cell? ⟨bq, oq, none⟩ = some v := by
  obtain ⟨b, off, h1, h2⟩ := h
  simp only [Option.some.injEq, Addr.mk.injEq, and_true] at h1
  obtain ⟨rfl, rfl⟩ := h1
  exact h2
set_option maxRecDepth 100000 in
set_option maxHeartbeats 2000000 in
theorem halfL_any (v : Value) (x : Vl) (w : World) (hv : VlAt w v x) (hg : Lg x.nl) :
    Calls Tryd.prog 7 #[v] w fun e w' => e = .returned (.bool (halfV x)) ∧ Below w.heap.size w w' := by
  obtain ⟨k, nn, nl, dn, dl, s, r⟩ := x
  obtain ⟨a, b, rfl, hx1, hx2⟩ := hv
  replace hx1 : RowU w a nl := hx1
  replace hx2 : RowU w b dl := hx2
  have hcl := hx1
  obtain ⟨a1, c1, rfl, -⟩ := hx1
  have HC := Lib.hid (fun W (h : Below w.heap.size w W) (hi : 0 < nl.length) => rowU_head (hcl.below h) hi)
  clear hcl
  obtain ⟨a2, c2, rfl, -⟩ := hx2
  generalize dl.length = m2 at *
  clear hg
  by_cases h0 : nl.length = 0
  · have HS := Lib.hid (show halfV ⟨k, nn, nl, dn, dl, s, r⟩ = true by unfold halfV; simp [h0])
    clear HC
    rw [h0]
    have hal1 := ext_alloc w (.cells #[.int .i64 k, .bool nn, .slice a1 0 c1, .bool dn, .slice a2 m2 c2, .string s, .int .i64 r] 26)
    have hal2 := heap_new w (.cells #[.int .i64 k, .bool nn, .slice a1 0 c1, .bool dn, .slice a2 m2 c2, .string s, .int .i64 r] 26)
    go_enter Tryd.func7, Tryd.ntmps7
    go_upto_region 1 with fail
    generalize (w.alloc (.cells #[.int .i64 k, .bool nn, .slice a1 0 c1, .bool dn, .slice a2 m2 c2, .string s, .int .i64 r] 26)) = w1 at *
    have hb1 := hal1
    have h1 := hal2
    clear hal1 hal2
    have d0 := box_cell h1 0
    have d1 := box_cell h1 1
    have d2 := box_cell h1 2
    have d3 := box_cell h1 3
    have d4 := box_cell h1 4
    have d5 := box_cell h1 5
    have d6 := box_cell h1 6
    simp only [List.getElem?_toArray, List.getElem?_cons_zero, List.getElem?_cons_succ] at d0 d1 d2 d3 d4 d5 d6
    go_wp2
    go_ret
    exact ⟨ret_bool HS.out.symm, hb1⟩
  · have hpos : 0 < nl.length := by omega
    have hne : ((nl.length : Int) == 0) = false := by rw [beq_eq_false_iff_ne]; omega
    obtain ⟨bq, oq, ha1, -⟩ := HC.out w (Below.refl _ _) hpos
    subst ha1
    have HC2 := Lib.hid (fun W (h : Below w.heap.size w W) => rowU_same (HC.out W h hpos))
    by_cases hh : nl.headD 0 < 2147483648
    · have HS := Lib.hid (show halfV ⟨k, nn, nl, dn, dl, s, r⟩ = true by unfold halfV; simp only; rw [Bool.or_eq_true]; exact .inr (by simpa using hh))
      generalize nl.headD 0 = y at *
      have hh' : (y : Int) < 2147483648 := by omega
      clear HC hh h0
      generalize nl.length = m1 at *
      have hal1 := ext_alloc w (.cells #[.int .i64 k, .bool nn, .slice (some ⟨bq, oq, none⟩) m1 c1, .bool dn, .slice a2 m2 c2, .string s, .int .i64 r] 26)
      have hal2 := heap_new w (.cells #[.int .i64 k, .bool nn, .slice (some ⟨bq, oq, none⟩) m1 c1, .bool dn, .slice a2 m2 c2, .string s, .int .i64 r] 26)
      go_enter Tryd.func7, Tryd.ntmps7
      go_upto_region 1 with fail
      generalize (w.alloc (.cells #[.int .i64 k, .bool nn, .slice (some ⟨bq, oq, none⟩) m1 c1, .bool dn, .slice a2 m2 c2, .string s, .int .i64 r] 26)) = w1 at *
      have hb1 := hal1
      have h1 := hal2
      clear hal1 hal2
      have d0 := box_cell h1 0
      have d1 := box_cell h1 1
      have d2 := box_cell h1 2
      have d3 := box_cell h1 3
      have d4 := box_cell h1 4
      have d5 := box_cell h1 5
      have d6 := box_cell h1 6
      simp only [List.getElem?_toArray, List.getElem?_cons_zero, List.getElem?_cons_succ] at d0 d1 d2 d3 d4 d5 d6
      have z1 := HC2.out w1 hb1
      go_wp2
      go_ret
      exact ⟨ret_bool HS.out.symm, hb1⟩
    · have HS := Lib.hid (show halfV ⟨k, nn, nl, dn, dl, s, r⟩ = false by unfold halfV; simp only; rw [Bool.or_eq_false_iff]; exact ⟨by simpa using h0, by simpa using hh⟩)
      generalize nl.headD 0 = y at *
      have hh' : ¬ ((y : Int) < 2147483648) := by omega
      clear HC hh h0
      generalize nl.length = m1 at *
      have hal1 := ext_alloc w (.cells #[.int .i64 k, .bool nn, .slice (some ⟨bq, oq, none⟩) m1 c1, .bool dn, .slice a2 m2 c2, .string s, .int .i64 r] 26)
      have hal2 := heap_new w (.cells #[.int .i64 k, .bool nn, .slice (some ⟨bq, oq, none⟩) m1 c1, .bool dn, .slice a2 m2 c2, .string s, .int .i64 r] 26)
      go_enter Tryd.func7, Tryd.ntmps7
      go_upto_region 1 with fail
      generalize (w.alloc (.cells #[.int .i64 k, .bool nn, .slice (some ⟨bq, oq, none⟩) m1 c1, .bool dn, .slice a2 m2 c2, .string s, .int .i64 r] 26)) = w1 at *
      have hb1 := hal1
      have h1 := hal2
      clear hal1 hal2
      have d0 := box_cell h1 0
      have d1 := box_cell h1 1
      have d2 := box_cell h1 2
      have d3 := box_cell h1 3
      have d4 := box_cell h1 4
      have d5 := box_cell h1 5
      have d6 := box_cell h1 6
      simp only [List.getElem?_toArray, List.getElem?_cons_zero, List.getElem?_cons_succ] at d0 d1 d2 d3 d4 d5 d6
      have z1 := HC2.out w1 hb1
      go_wp2
      go_ret
      exact ⟨ret_bool HS.out.symm, hb1⟩

end Go.Proofs.YtpmadgmjkljbgaaDoor
