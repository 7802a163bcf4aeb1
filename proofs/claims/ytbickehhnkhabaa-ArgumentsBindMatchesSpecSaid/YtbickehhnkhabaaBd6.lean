/- Walk: the document's BindFault. -/
import Derived.Test.YtbickehhnkhabaaBd5
import Derived.Test.YtbickehhnkhabaaBindLaw
namespace Go.Proofs.Ytbickehhnkhabaa
open Go.RowKit

def sumN (ps : List Par) : Nat := (ps.map Par.n).sum
theorem sumN_succ (ps : List Par) (k : Nat) (h : k < ps.length) : sumN (ps.take (k + 1)) = sumN (ps.take k) + ps[k].n := by
  unfold sumN
  rw [List.take_succ_eq_append_getElem h, List.map_append, List.sum_append]; simp

/-- The fault of a binding. -/
noncomputable def bindFF (ps : List Par) (dn : Nat) (l : List Val) (nn : Nat) (named : List Val) : Int × Int :=
  if (parF ps).1 ≠ 0 then parF ps
  else if sumN ps ≠ dn then (9, -2)
  else if nn ≠ named.length then (9, -3)
  else if 1000 < l.length + nn then (2, -3)
  else match l.findIdx? isUV with
    | some k => (18, k)
    | none => match named.findIdx? isUV with
      | some k => (18, (l.length + k : Nat))
      | none => (0, 0)

theorem badP_ge (ps : List Par) (k : Nat) : badP ps k = -1 ∨ ∃ i : Nat, k ≤ i ∧ i < ps.length ∧ badP ps k = i ∧ codeI ps i ≠ 0 := by
  rcases firstFrom_spec (fun i => codeI ps i != 0) ps.length k with ⟨hf, _⟩ | ⟨i, h1, h2, hf, hy, _⟩
  · exact .inl hf
  · exact .inr ⟨i, h1, h2, hf, by simpa using hy⟩

theorem parF_zero {ps : List Par} (h : (parF ps).1 = 0) : ps.length ≤ 12 ∧ badP ps 0 = -1 ∧ parF ps = (0, 0) := by
  by_cases h12 : 12 < ps.length
  · rw [parF_many h12] at h; simp at h
  · rcases badP_ge ps 0 with hb | ⟨i, _, hi, hb, hc⟩
    · exact ⟨by omega, hb, parF_good h12 hb⟩
    · rw [parF_bad h12 hb] at h; exact absurd h hc

theorem n_le_one {ps : List Par} (hb : badP ps 0 = -1) : ∀ i (h : i < ps.length), ps[i].n ≤ 1 := by
  intro i h
  have hz : codeI ps i = 0 := by
    rcases firstFrom_spec (fun i => codeI ps i != 0) ps.length 0 with ⟨hf, hall⟩ | ⟨i0, _, hi0, hf, hyes, hall⟩
    · have := hall i (Nat.zero_le _) h
      simpa using this
    · unfold badP at hb; omega
  rw [codeI_at ps i h] at hz
  unfold codeAt at hz
  repeat' (split at hz <;> try omega)

theorem sumN_le {ps : List Par} (h : ∀ i (h : i < ps.length), ps[i].n ≤ 1) : ∀ k, k ≤ ps.length → sumN (ps.take k) ≤ k := by
  intro k
  induction k with
  | zero => intro _; simp [sumN]
  | succ k ih =>
    intro hk
    have h1 := ih (by omega)
    have h2 := h k (by omega)
    rw [sumN_succ ps k (by omega)]
    omega

theorem optI_some {o : Option Nat} {j : Nat} (h : optI o = j) : o = some j := by
  cases o with
  | none => simp [optI] at h
  | some k => rw [show k = j by simp only [optI] at h; omega]
theorem optI_none {o : Option Nat} (h : optI o = -1) : o = none := by
  cases o with
  | none => rfl
  | some k => simp [optI] at h

set_option maxRecDepth 100000 in
set_option maxHeartbeats 4000000 in
theorem BindFault_any (pv vv mv : Value) (da na : Option Addr) (dc nc : Nat) (ps : List Par) (dn nn : Nat) (l named : List Val) (w : World) (hv : ParamsAt w pv ps) (hl : ValsAt w vv l) (hm : ValsAt w mv named)
    (hdn : dn ≤ 140737488355328) (hnn : nn ≤ 140737488355328) (hll : l.length ≤ 140737488355328) (hml : named.length ≤ 140737488355328)
    (hpf : ∀ W, Below w.heap.size w W → Calls Try.prog 13 #[pv] W fun e w' => e = .returned (faultV (parF ps).1 (parF ps).2) ∧ Below W.heap.size W w') :
    Calls Try.prog 19 #[pv, .slice da dn dc, .agg #[vv, .slice na nn nc, mv]] w fun e w' => e = .returned (faultV (bindFF ps dn l nn named).1 (bindFF ps dn l nn named).2) ∧ Below w.heap.size w w' := by
  obtain ⟨va, vc, rfl⟩ := hl.isSlice
  obtain ⟨ma, mc, rfl⟩ := hm.isSlice
  obtain ⟨pa, pc, rfl⟩ := hv.len
  have HPF := Lib.hid hpf
  have HV := Lib.hid hv
  have HL := Lib.hid hl
  have HM := Lib.hid hm
  clear hpf hv hl hm
  have hb1 := ext_alloc w (.cells #[.slice va l.length vc, .slice na nn nc, .slice ma named.length mc] 39)
  have hx1 := heap_new w (.cells #[.slice va l.length vc, .slice na nn nc, .slice ma named.length mc] 39)
  have hb2 := ext_alloc (w.alloc (.cells #[.slice va l.length vc, .slice na nn nc, .slice ma named.length mc] 39)) (.cells #[.int .i64 0, .int .i64 0] 27)
  have hx2 := heap_new (w.alloc (.cells #[.slice va l.length vc, .slice na nn nc, .slice ma named.length mc] 39)) (.cells #[.int .i64 0, .int .i64 0] 27)
  have hx1' := (hb2.block w.heap.size (by simp)).trans hx1
  have hbb := ext_trans hb1 hb2
  rw [show (w.alloc (.cells #[.slice va l.length vc, .slice na nn nc, .slice ma named.length mc] 39)).heap.size = w.heap.size + 1 by simp] at hx2
  clear hx1 hb1 hb2
  go_enter Try.func19, Try.ntmps19
  go_upto_region 1 with fail
  generalize ((w.alloc (.cells #[.slice va l.length vc, .slice na nn nc, .slice ma named.length mc] 39)).alloc (.cells #[.int .i64 0, .int .i64 0] 27)) = w2 at *
  go_wp2_with fail
  refine (HPF.out _ hbb).mono ?_
  rintro e w3 ⟨rfl, hb3⟩
  simp only [faultV]
  have hx3 := (hb3.block _ (box_lt hx1')).trans hx1'
  have hy3 := (hb3.block _ (box_lt hx2)).trans hx2
  have hbb3 := ext_trans hbb hb3
  clear hx1' hx2 hbb hb3
  have hb4 := ext_alloc w3 (.cells #[.int .i64 (parF ps).1, .int .i64 (parF ps).2] 27)
  have hz4 := heap_new w3 (.cells #[.int .i64 (parF ps).1, .int .i64 (parF ps).2] 27)
  have hx4 := (hb4.block _ (box_lt hx3)).trans hx3
  have hy4 := (hb4.block _ (box_lt hy3)).trans hy3
  have hbb4 := ext_trans hbb3 hb4
  clear hx3 hy3 hbb3 hb4
  go_upto_region 2 with fail
  generalize (w3.alloc (.cells #[.int .i64 (parF ps).1, .int .i64 (parF ps).2] 27)) = w4 at *
  generalize w3.heap.size = N3 at *
  obtain ⟨p0, p1, p2, p3⟩ := box2 hz4
  obtain ⟨q0, q1, q2, q3⟩ := box2 hy4
  by_cases hc : (parF ps).1 = 0
  · obtain ⟨h12, hbad, hz⟩ := parF_zero hc
    have HN1 := Lib.hid (n_le_one hbad)
    have HSum := Lib.hid (sumN_le HN1.out)
    have HB : Hid (bindFF ps dn l nn named = if sumN ps ≠ dn then ((9 : Int), (-2 : Int)) else if nn ≠ named.length then (9, -3) else if 1000 < l.length + nn then (2, -3) else match l.findIdx? isUV with
      | some k => (18, (k : Int))
      | none => match named.findIdx? isUV with
        | some k => (18, ((l.length + k : Nat) : Int))
        | none => (0, 0)) := by unfold Hid bindFF; rw [if_neg (fun h => h hc)]
    rw [hc] at hz4 p0 ⊢
    clear hbad hz hc
    generalize (parF ps).2 = pc2 at *
    go_wp2
    go_loopg [8, 23] ps.length (fun q s8 s23 wr => ∃ k : Nat, k ≤ ps.length ∧ ps.length - k ≤ q ∧ s23 = .int .i64 k ∧ s8 = .int .i64 (sumN (ps.take k) : Nat) ∧ Below w4.heap.size w4 wr)
    case atStart => exact ⟨0, Nat.zero_le _, by omega, rfl, rfl, Below.refl _ _⟩
    case round =>
      obtain ⟨k, hk, hq, rfl, rfl, hb⟩ := hrel
      have hbw := ext_trans hbb4 hb
      by_cases hlt : k < ps.length
      · obtain ⟨a', c', he, _, _, hc⟩ := HV.out.below hbw
        simp only [Value.slice.injEq, true_and] at he
        obtain ⟨rfl, rfl⟩ := he
        obtain ⟨b, off, da', dc', rfl, z0, z1, z2⟩ := hc k hlt
        have hS := sumN_succ ps k hlt
        have hle := HSum.out (k + 1) hlt
        rw [hS] at hle
        have HS := Lib.hid hS
        clear hc hS
        generalize sumN (ps.take k) = sk at *
        generalize ps[k].k = pk at *
        generalize ps[k].n = pn at *
        generalize ps[k].s = nm at *
        have hbA := ext_alloc wr (.cells #[.int .i64 pk, .string nm, .slice da' pn dc'] 51)
        go_wp2
        go_roundg (ps.length - (k + 1))
        case measure => omega
        case rel => exact ⟨k + 1, by omega, by omega, by go_num, by rw [HS.out]; go_num, ext_trans hb hbA⟩
      · have hk' : k = ps.length := by omega
        have hT : sumN (ps.take k) = sumN ps := by rw [hk', List.take_of_length_le (Nat.le_refl _)]
        have hle := HSum.out k (by omega)
        rw [hT] at hle ⊢
        have hx5 := (hb.block _ (box_lt hx4)).trans hx4
        have hy5 := (hb.block _ (box_lt hy4)).trans hy4
        clear hT hk' hq hk hx4 hy4 hz4 p0 p1 p2 p3 q0 q1 q2 q3 hb hbb4
        generalize sumN ps = sn at *
        obtain ⟨q0, q1, q2, q3⟩ := box2 hy5
        by_cases h1 : sn = dn
        · subst h1
          have HB2 := Lib.hid (HB.out.trans (if_neg (fun h => h rfl)))
          clear HB
          by_cases h2 : nn = named.length
          · subst h2
            have HB3 := Lib.hid (HB2.out.trans (if_neg (fun h => h rfl)))
            clear HB2
            by_cases h3 : 1000 < l.length + named.length
            · have h3i : ((l.length : Int) + (named.length : Int) > 1000) := by omega
              have HR : Hid (bindFF ps sn l named.length named = (2, -3)) := by unfold Hid; rw [HB3.out, if_pos h3]
              clear HB3 h3
              have hx5a := box_cell hx5 0
              have hx5b := box_cell hx5 1
              have hx5c := box_cell hx5 2
              simp only [List.getElem?_toArray, List.getElem?_cons_zero, List.getElem?_cons_succ] at hx5a hx5b hx5c
              go_wp2_with fail
              refine (At_any _ _ _).mono ?_
              rintro e w6 ⟨rfl, hb6⟩
              simp only [faultV]
              have hy6 := (hb6.block _ (box_lt hy5)).trans hy5
              obtain ⟨s0, s1, s2, s3⟩ := box2 hy6
              go_wp2
              obtain ⟨r0, r1, _, r3⟩ := box2 (box2_set hy6 (.int .i64 (2)) (.int .i64 (-3)))
              refine bodyPost_ret (v := faultV (2) (-3)) (by simp [results, Try.results19, go_sem, r0, r1, faultV]) rfl ⟨by rw [HR.out], ?_⟩
              exact ((ext_trans hbw hb6).setCell (Nat.le_succ _) _).setCell (Nat.le_succ _) _
            · have h3i : ¬ ((l.length : Int) + (named.length : Int) > 1000) := by omega
              have HB4 := Lib.hid (HB3.out.trans (if_neg h3))
              have hx5a := box_cell hx5 0
              have hx5b := box_cell hx5 1
              have hx5c := box_cell hx5 2
              simp only [List.getElem?_toArray, List.getElem?_cons_zero, List.getElem?_cons_succ] at hx5a hx5b hx5c
              clear HB3 h3 hle
              have HF1 := Lib.hid (firstFrom_find l isUV (atD isUV l) (fun i hi => atD_lt hi))
              have HF2 := Lib.hid (firstFrom_find named isUV (atD isUV named) (fun i hi => atD_lt hi))
              go_wp2
              obtain ⟨wo, hwo⟩ : ∃ wo : World, wo = wr := ⟨_, rfl⟩
              subst hwo
              go_loopg [61] l.length (fun q s61 wx => ∃ j : Nat, j ≤ l.length ∧ l.length - j ≤ q ∧ s61 = .int .i64 j ∧ Below wo.heap.size wo wx ∧ Hid (firstFrom (atD isUV l) l.length 0 = firstFrom (atD isUV l) l.length j))
              case atStart => exact ⟨0, Nat.zero_le _, by omega, rfl, Below.refl _ _, rfl⟩
              case round =>
                obtain ⟨j, hj, hq2, rfl, hbx, hfi⟩ := hrel
                have hbwx := ext_trans hbw hbx
                have hx6 := (hbx.block _ (box_lt hx5)).trans hx5
                have hy6 := (hbx.block _ (box_lt hy5)).trans hy5
                by_cases hlt2 : j < l.length
                · obtain ⟨b, off, rfl, z0, z1, z2, z3, z4, z5, z6⟩ := ValsAt.at (HL.out.below hbwx) hlt2
                  have hpj : atD isUV l j = isUV l[j] := atD_lt hlt2
                  have hyes := Lib.hid (fun h => firstFrom_yes (p := atD isUV l) hlt2 (by rw [hpj]; exact h))
                  have hno := Lib.hid (fun h => firstFrom_no (p := atD isUV l) hlt2 (by rw [hpj]; exact h))
                  clear hpj
                  generalize hgx : l[j] = x at *
                  clear hgx
                  obtain ⟨k', n', na', nl', nc', d', da', dl', dc', s', r'⟩ := x
                  simp only [isUV] at z0 z1 z2 z3 z4 z5 z6 hyes hno
                  have hbA := ext_alloc wr (valO ⟨k', n', na', nl', nc', d', da', dl', dc', s', r'⟩)
                  unfold valO at hbA
                  simp only at hbA
                  cases hk9 : (k' == 9) with
                  | true =>
                    have HR : Hid (bindFF ps sn l named.length named = (18, (j : Int))) := by
                      unfold Hid
                      rw [HB4.out, optI_some (HF1.out.symm.trans (hfi.out.trans (hyes.out hk9)))]
                    have hyA := (hbA.block _ (box_lt hy6)).trans hy6
                    clear hno hyes
                    go_wp2_with fail
                    refine (At_any _ _ _).mono ?_
                    rintro e w6 ⟨rfl, hb6⟩
                    simp only [faultV]
                    have hy7 := (hb6.block _ (box_lt hyA)).trans hyA
                    obtain ⟨s0, s1, s2, s3⟩ := box2 hy7
                    go_wp2
                    obtain ⟨r0, r1, _, r3⟩ := box2 (box2_set hy7 (.int .i64 18) (.int .i64 (j)))
                    refine bodyPost_ret (v := faultV 18 (j)) (by simp [results, Try.results19, go_sem, r0, r1, faultV]) rfl ⟨by rw [HR.out], ?_⟩
                    exact ((ext_trans (ext_trans hbwx hbA) hb6).setCell (Nat.le_succ _) _).setCell (Nat.le_succ _) _
                  | false =>
                    have HNO := Lib.hid (hno.out hk9)
                    clear hno hyes
                    go_wp2
                    go_roundg (l.length - (j + 1))
                    case measure => omega
                    case rel => exact ⟨j + 1, by omega, by omega, by go_num, ext_trans hbx hbA, by unfold Hid; rw [hfi.out, HNO.out]⟩
                · have hfl := hfi.out.trans (firstFrom_end hlt2)
                  have HB5 : Hid (bindFF ps sn l named.length named = match named.findIdx? isUV with
                    | some k => (18, ((l.length + k : Nat) : Int))
                    | none => (0, 0)) := by
                    unfold Hid
                    rw [HB4.out, optI_none (HF1.out.symm.trans hfl)]
                  have hx6a := box_cell hx6 0
                  have hx6c := box_cell hx6 2
                  simp only [List.getElem?_toArray, List.getElem?_cons_zero, List.getElem?_cons_succ] at hx6a hx6c
                  clear hfl HB4 hfi hq2 hbx hx5 hy5 hx5a hx5b hx5c q0 q1 q2 q3
                  go_wp2
                  obtain ⟨w7, hw7⟩ : ∃ w7 : World, w7 = wr := ⟨_, rfl⟩
                  subst hw7
                  go_loopg [75] named.length (fun q s75 wx => ∃ j : Nat, j ≤ named.length ∧ named.length - j ≤ q ∧ s75 = .int .i64 j ∧ Below w7.heap.size w7 wx ∧ Hid (firstFrom (atD isUV named) named.length 0 = firstFrom (atD isUV named) named.length j))
                  case atStart => exact ⟨0, Nat.zero_le _, by omega, rfl, Below.refl _ _, rfl⟩
                  case round =>
                    obtain ⟨i, hj, hq2, rfl, hbx, hfi⟩ := hrel
                    have hbw7 := ext_trans hbwx hbx
                    have hx8 := (hbx.block _ (box_lt hx6)).trans hx6
                    have hy8 := (hbx.block _ (box_lt hy6)).trans hy6
                    by_cases hlt2 : i < named.length
                    · obtain ⟨b, off, rfl, z0, z1, z2, z3, z4, z5, z6⟩ := ValsAt.at (HM.out.below hbw7) hlt2
                      have hpj : atD isUV named i = isUV named[i] := atD_lt hlt2
                      have hyes := Lib.hid (fun h => firstFrom_yes (p := atD isUV named) hlt2 (by rw [hpj]; exact h))
                      have hno := Lib.hid (fun h => firstFrom_no (p := atD isUV named) hlt2 (by rw [hpj]; exact h))
                      clear hpj
                      generalize hgx : named[i] = x at *
                      clear hgx
                      obtain ⟨k', n', na', nl', nc', d', da', dl', dc', s', r'⟩ := x
                      simp only [isUV] at z0 z1 z2 z3 z4 z5 z6 hyes hno
                      have hbA := ext_alloc wr (valO ⟨k', n', na', nl', nc', d', da', dl', dc', s', r'⟩)
                      unfold valO at hbA
                      simp only at hbA
                      have hxA := (hbA.block _ (box_lt hx8)).trans hx8
                      have hyA := (hbA.block _ (box_lt hy8)).trans hy8
                      have hxAa := box_cell hxA 0
                      simp only [List.getElem?_toArray, List.getElem?_cons_zero] at hxAa
                      cases hk9 : (k' == 9) with
                      | true =>
                        have HR : Hid (bindFF ps sn l named.length named = (18, (l.length : Int) + (i : Int))) := by
                          unfold Hid
                          rw [HB5.out, optI_some (HF2.out.symm.trans (hfi.out.trans (hyes.out hk9)))]
                          simp
                        clear hno hyes hbwx
                        have hbwx := hbw7
                        go_wp2_with fail
                        refine (At_any _ _ _).mono ?_
                        rintro e w6 ⟨rfl, hb6⟩
                        simp only [faultV]
                        have hy7 := (hb6.block _ (box_lt hyA)).trans hyA
                        obtain ⟨s0, s1, s2, s3⟩ := box2 hy7
                        go_wp2
                        obtain ⟨r0, r1, _, r3⟩ := box2 (box2_set hy7 (.int .i64 18) (.int .i64 ((l.length : Int) + (i : Int))))
                        refine bodyPost_ret (v := faultV 18 ((l.length : Int) + (i : Int))) (by simp [results, Try.results19, go_sem, r0, r1, faultV]) rfl ⟨by rw [HR.out], ?_⟩
                        exact ((ext_trans (ext_trans hbwx hbA) hb6).setCell (Nat.le_succ _) _).setCell (Nat.le_succ _) _
                      | false =>
                        have HNO := Lib.hid (hno.out hk9)
                        clear hno hyes
                        go_wp2
                        go_roundg (named.length - (i + 1))
                        case measure => omega
                        case rel => exact ⟨i + 1, by omega, by omega, by go_num, ext_trans hbx hbA, by unfold Hid; rw [hfi.out, HNO.out]⟩
                    · have hfl := hfi.out.trans (firstFrom_end hlt2)
                      have HR : Hid (bindFF ps sn l named.length named = (0, 0)) := by
                        unfold Hid
                        rw [HB5.out, optI_none (HF2.out.symm.trans hfl)]
                      clear hfl
                      obtain ⟨s0, s1, s2, s3⟩ := box2 hy8
                      go_wp2
                      obtain ⟨r0, r1, _, r3⟩ := box2 (box2_set hy8 (.int .i64 0) (.int .i64 0))
                      refine bodyPost_ret (v := faultV 0 0) (by simp [results, Try.results19, go_sem, r0, r1, faultV]) rfl ⟨by rw [HR.out], ?_⟩
                      exact (hbw7.setCell (Nat.le_succ _) _).setCell (Nat.le_succ _) _
          · have h2b : ((nn : Int) != (named.length : Int)) = true := by rw [bne_iff_ne]; omega
            have HR : Hid (bindFF ps sn l nn named = (9, -3)) := by unfold Hid; rw [HB2.out, if_pos h2]
            clear HB2 h2
            have hx5a := box_cell hx5 0
            have hx5b := box_cell hx5 1
            have hx5c := box_cell hx5 2
            simp only [List.getElem?_toArray, List.getElem?_cons_zero, List.getElem?_cons_succ] at hx5a hx5b hx5c
            go_wp2_with fail
            refine (At_any _ _ _).mono ?_
            rintro e w6 ⟨rfl, hb6⟩
            simp only [faultV]
            have hy6 := (hb6.block _ (box_lt hy5)).trans hy5
            obtain ⟨s0, s1, s2, s3⟩ := box2 hy6
            go_wp2
            obtain ⟨r0, r1, _, r3⟩ := box2 (box2_set hy6 (.int .i64 (9)) (.int .i64 (-3)))
            refine bodyPost_ret (v := faultV (9) (-3)) (by simp [results, Try.results19, go_sem, r0, r1, faultV]) rfl ⟨by rw [HR.out], ?_⟩
            exact ((ext_trans hbw hb6).setCell (Nat.le_succ _) _).setCell (Nat.le_succ _) _
        · have h1b : ((dn : Int) != (sn : Int)) = true := by rw [bne_iff_ne]; omega
          have h1c : ((sn : Int) != (dn : Int)) = true := by rw [bne_iff_ne]; omega
          have HR : Hid (bindFF ps dn l nn named = (9, -2)) := by unfold Hid; rw [HB.out, if_pos h1]
          clear HB h1
          have hx5a := box_cell hx5 0
          have hx5b := box_cell hx5 1
          have hx5c := box_cell hx5 2
          simp only [List.getElem?_toArray, List.getElem?_cons_zero, List.getElem?_cons_succ] at hx5a hx5b hx5c
          go_wp2_with fail
          refine (At_any _ _ _).mono ?_
          rintro e w6 ⟨rfl, hb6⟩
          simp only [faultV]
          have hy6 := (hb6.block _ (box_lt hy5)).trans hy5
          obtain ⟨s0, s1, s2, s3⟩ := box2 hy6
          go_wp2
          obtain ⟨r0, r1, _, r3⟩ := box2 (box2_set hy6 (.int .i64 (9)) (.int .i64 (-2)))
          refine bodyPost_ret (v := faultV (9) (-2)) (by simp [results, Try.results19, go_sem, r0, r1, faultV]) rfl ⟨by rw [HR.out], ?_⟩
          exact ((ext_trans hbw hb6).setCell (Nat.le_succ _) _).setCell (Nat.le_succ _) _
  · have hcb : ((parF ps).1 != 0) = true := by simpa using hc
    have HB : Hid (bindFF ps dn l nn named = parF ps) := by unfold Hid bindFF; rw [if_pos hc]
    clear hc
    go_wp2
    obtain ⟨r0, r1, _, r3⟩ := box2 (box2_set hy4 (.int .i64 (parF ps).1) (.int .i64 (parF ps).2))
    refine bodyPost_ret (v := faultV (parF ps).1 (parF ps).2) (by simp [results, Try.results19, go_sem, r0, r1, faultV]) rfl ⟨by rw [HB.out], ?_⟩
    exact (hbb4.setCell (Nat.le_succ _) _).setCell (Nat.le_succ _) _
end Go.Proofs.Ytbickehhnkhabaa
