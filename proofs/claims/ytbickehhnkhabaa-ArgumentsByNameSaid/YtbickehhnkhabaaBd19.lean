/- Walk: binds. -/
import Derived.Test.YtbickehhnkhabaaBd13a
import Derived.Test.YtbickehhnkhabaaOa
import Derived.Deep.RegionLaw
import Derived.Test.YtbickehhnkhabaaByLaw
namespace Go.Proofs.Ytbickehhnkhabaa
open Go.RowKit

set_option maxRecDepth 100000 in
set_option maxHeartbeats 8000000 in
theorem binds_any (pv dv lv nv mv b0 b1 b2 b3 : Value) (ps : List Par) (ds l : List Val) (names : List ByteArray) (named : List Val) (st st' : BSt Val) (rest : List Val) (w : World)
    (hv : ParamsAt w pv ps) (hd : ValsAt w dv ds) (hl : ValsAt w lv l) (hn : RowOf Value.string w nv names) (hm : ValsAt w mv named)
    (hll : l.length ≤ 140737488355328) (hnl : names.length ≤ 140737488355328) (hml : named.length ≤ 140737488355328) (hsz : ∀ p ∈ ps, p.s.size ≤ 140737488355328) (hns : ∀ s ∈ names, s.size ≤ 140737488355328)
    (hbd : BoundAt w b0 b1 b2 b3 st.vals rest st.names st.named) (hff : (bindFF ps ds.length l names.length named).1 = 0) (hx : bindF unbV isUV ps ds l (names.zip named) = .inr (st', rest)) (hvals : st'.vals = st.vals)
    (hlen : st'.names.length = st.names.length) (hlen2 : st'.names.length = st'.named.length)
    (hfind : ∀ n (h : n < st'.names.length), ∃ k, ∃ hk : k < st.named.length, st.names.findIdx? (sameN st'.names[n]) = some k ∧ st'.named[n]? = some st.named[k])
    (g0 : ∀ x ∈ st.vals, GoodVal w x) (g1 : ∀ x ∈ rest, GoodVal w x) (g2 : ∀ x ∈ st.named, GoodVal w x) :
    Calls Try.prog 24 #[pv, dv, .agg #[lv, nv, mv], .agg #[b0, b1, b2, b3]] w fun e w' => e = .returned (.bool true) ∧ Below w.heap.size w w' := by
  have H1 := Lib.hid (fun W (h : Below w.heap.size w W) => Bind_any pv dv lv nv mv ⟨#[102]⟩ ps ds l names named W (hv.below h) (hd.below h) (hl.below h) (hn.below h) (hm.below h) hll hnl hml (by decide) hsz hns)
  obtain ⟨pa, pc, rfl⟩ := hv.len
  obtain ⟨da, dc, rfl⟩ := hd.isSlice
  obtain ⟨la, lc, rfl⟩ := hl.isSlice
  obtain ⟨ma, mc, rfl⟩ := hm.isSlice
  obtain ⟨na, nc, rfl⟩ : ∃ na nc, nv = .slice na names.length nc := by obtain ⟨a, c, rfl, _⟩ := hn; exact ⟨_, _, rfl⟩
  obtain ⟨x0, k0, rfl⟩ := hbd.vals.isSlice
  obtain ⟨x1, k1, rfl⟩ := hbd.rest.isSlice
  obtain ⟨x2, k2, rfl⟩ : ∃ a c, b2 = .slice a st.names.length c := by obtain ⟨a, c, rfl, _⟩ := hbd.names; exact ⟨_, _, rfl⟩
  obtain ⟨x3, k3, rfl⟩ := hbd.named.isSlice
  have HBD := Lib.hid hbd
  have HFF := Lib.hid hff
  have HX := Lib.hid hx
  have HV := Lib.hid hvals
  have HLN := Lib.hid hlen
  have HL2 := Lib.hid hlen2
  have HFI := Lib.hid hfind
  have G0 := Lib.hid g0
  have G1 := Lib.hid g1
  have G2 := Lib.hid g2
  clear hv hd hl hn hm hbd hff hx hvals hlen hlen2 hfind g0 g1 g2 hsz hns
  have hb1 := ext_alloc w (.cells #[.slice la l.length lc, .slice na names.length nc, .slice ma named.length mc] 39)
  have hx1 := heap_new w (.cells #[.slice la l.length lc, .slice na names.length nc, .slice ma named.length mc] 39)
  have hb2 := ext_alloc (w.alloc (.cells #[.slice la l.length lc, .slice na names.length nc, .slice ma named.length mc] 39)) (.cells #[.slice x0 st.vals.length k0, .slice x1 rest.length k1, .slice x2 st.names.length k2, .slice x3 st.named.length k3] 41)
  have hy1 := heap_new (w.alloc (.cells #[.slice la l.length lc, .slice na names.length nc, .slice ma named.length mc] 39)) (.cells #[.slice x0 st.vals.length k0, .slice x1 rest.length k1, .slice x2 st.names.length k2, .slice x3 st.named.length k3] 41)
  rw [show (w.alloc (.cells #[.slice la l.length lc, .slice na names.length nc, .slice ma named.length mc] 39)).heap.size = w.heap.size + 1 by simp] at hy1
  replace hx1 := (hb2.block _ (box_lt hx1)).trans hx1
  have hb := ext_trans hb1 hb2
  clear hb1 hb2
  go_enter Try.func24, Try.ntmps24
  go_upto_region 1 with fail
  generalize ((w.alloc (.cells #[.slice la l.length lc, .slice na names.length nc, .slice ma named.length mc] 39)).alloc (.cells #[.slice x0 st.vals.length k0, .slice x1 rest.length k1, .slice x2 st.names.length k2, .slice x3 st.named.length k3] 41)) = w1 at *
  generalize w.heap.size + 1 = NB at *
  have c0 := box_cell hx1 0
  have c1 := box_cell hx1 1
  have c2 := box_cell hx1 2
  simp only [List.getElem?_toArray, List.getElem?_cons_zero, List.getElem?_cons_succ] at c0 c1 c2
  go_wp2_with fail
  refine (H1.out w1 hb).mono ?_
  rintro e w2 hpost
  have HP := Lib.hid hpost
  clear hpost H1 c0 c1 c2
  have hb12 := HP.out.1
  obtain ⟨a0, a1, a2, a3, t, c, i, vals, rest', nms, nmd, rfl, hff2, hba, hres⟩ := HP.out.form
  have hc0 : c = 0 := by have := HFF.out; rw [hff2] at this; exact this
  have hi0 : i = 0 := by have := (bindFF_zero HFF.out).2.2.2.2.2.2; rw [hff2] at this; simp at this; exact this.2
  have hr : t = ⟨#[]⟩ ∧ vals = st.vals ∧ rest' = rest ∧ nms = st'.names ∧ nmd = st'.named := by
    rcases hres with h | ⟨_, h⟩
    · exact absurd hc0 h.1
    · rw [HX.out] at h
      rcases h with ⟨m, h, _⟩ | ⟨h, h2⟩
      · cases h
      · simp only [Sum.inr.injEq, Prod.mk.injEq] at h
        obtain ⟨h, rfl⟩ := h
        subst h
        exact ⟨h2, HV.out, rfl, rfl, rfl⟩
  obtain ⟨rfl, rfl, rfl, rfl, rfl⟩ := hr
  obtain ⟨y0, c0, rfl⟩ := hba.vals.isSlice
  obtain ⟨y1, c1, rfl⟩ := hba.rest.isSlice
  obtain ⟨y2, c2, rfl⟩ : ∃ a c, a2 = .slice a st'.names.length c := by obtain ⟨a, c, rfl, _⟩ := hba.names; exact ⟨_, _, rfl⟩
  obtain ⟨y3, c3, rfl⟩ := hba.named.isSlice
  subst hc0
  subst hi0
  have HBA := Lib.hid hba
  clear hba hres hff2 HP
  simp only [faultV]
  replace hy1 := (hb12.block _ (box_lt hy1)).trans hy1
  have hb2 := ext_trans hb hb12
  clear hb hb12 hx1
  have hbA := ext_alloc w2 (.cells #[.slice y0 st.vals.length c0, .slice y1 rest'.length c1, .slice y2 st'.names.length c2, .slice y3 st'.named.length c3] 41)
  have hz1 := heap_new w2 (.cells #[.slice y0 st.vals.length c0, .slice y1 rest'.length c1, .slice y2 st'.names.length c2, .slice y3 st'.named.length c3] 41)
  have hbB := ext_alloc (w2.alloc (.cells #[.slice y0 st.vals.length c0, .slice y1 rest'.length c1, .slice y2 st'.names.length c2, .slice y3 st'.named.length c3] 41)) (.cells #[.int .i64 0, .int .i64 0] 27)
  have hw1 := heap_new (w2.alloc (.cells #[.slice y0 st.vals.length c0, .slice y1 rest'.length c1, .slice y2 st'.names.length c2, .slice y3 st'.named.length c3] 41)) (.cells #[.int .i64 0, .int .i64 0] 27)
  rw [show (w2.alloc (.cells #[.slice y0 st.vals.length c0, .slice y1 rest'.length c1, .slice y2 st'.names.length c2, .slice y3 st'.named.length c3] 41)).heap.size = w2.heap.size + 1 by simp] at hw1
  replace hz1 := (hbB.block _ (box_lt hz1)).trans hz1
  have hb23 := ext_trans hbA hbB
  clear hbA hbB
  go_upto_region 2 with fail
  generalize ((w2.alloc (.cells #[.slice y0 st.vals.length c0, .slice y1 rest'.length c1, .slice y2 st'.names.length c2, .slice y3 st'.named.length c3] 41)).alloc (.cells #[.int .i64 0, .int .i64 0] 27)) = w3 at *
  replace hy1 := (hb23.block _ (box_lt hy1)).trans hy1
  have hb3 := ext_trans hb2 hb23
  have HBA3 := Lib.hid (HBA.out.below hb23)
  clear hb2 hb23 HBA
  generalize w2.heap.size + 1 = NF at *
  generalize w2.heap.size = NC at *
  have C0 := Lib.hid (fun W (h : Below w.heap.size w W) (h3 : Below w3.heap.size w3 W) => SameValues_any _ _ st.vals W (HBA3.out.vals.below h3) (HBD.out.vals.below h) (fun x hx => (G0.out x hx).below h))
  have C1 := Lib.hid (fun W (h : Below w.heap.size w W) (h3 : Below w3.heap.size w3 W) => SameValues_any _ _ rest' W (HBA3.out.rest.below h3) (HBD.out.rest.below h) (fun x hx => (G1.out x hx).below h))
  obtain ⟨p0, p1, -, -⟩ := box2 hw1
  have e0 := box_cell hy1 0
  have f0 := box_cell hz1 0
  simp only [List.getElem?_toArray, List.getElem?_cons_zero] at e0 f0
  go_wp2_with fail
  refine (C0.out w3 hb3 (Below.refl _ _)).mono ?_
  rintro e w4 ⟨rfl, hb34⟩
  replace hy1 := (hb34.block _ (box_lt hy1)).trans hy1
  replace hz1 := (hb34.block _ (box_lt hz1)).trans hz1
  have hb4 := ext_trans hb3 hb34
  clear e0 f0 p0 p1 hw1 hb3 C0
  have e1 := box_cell hy1 1
  have f1 := box_cell hz1 1
  simp only [List.getElem?_toArray, List.getElem?_cons_zero, List.getElem?_cons_succ] at e1 f1
  go_wp2_with fail
  refine (C1.out w4 hb4 hb34).mono ?_
  rintro e w5 ⟨rfl, hb45⟩
  replace hy1 := (hb45.block _ (box_lt hy1)).trans hy1
  replace hz1 := (hb45.block _ (box_lt hz1)).trans hz1
  have hb5 := ext_trans hb4 hb45
  have hb35 := ext_trans hb34 hb45
  clear e1 f1 hb4 C1 hb34 hb45
  have HBA5 := Lib.hid (HBA3.out.below hb35)
  clear HBA3 hb35
  have e2 := box_cell hy1 2
  have f2 := box_cell hz1 2
  simp only [List.getElem?_toArray, List.getElem?_cons_zero, List.getElem?_cons_succ] at e2 f2
  have hnn : (((st'.names.length : Nat) : Int) != ((st.names.length : Nat) : Int)) = false := by rw [HLN.out]; simp
  go_wp2
  clear e2 f2
  go_loopg [58] st'.names.length (fun q s58 wr => ∃ n : Nat, n ≤ st'.names.length ∧ st'.names.length - n ≤ q ∧ s58 = .int .i64 n ∧ Below w5.heap.size w5 wr)
  case atStart => exact ⟨0, Nat.zero_le _, by omega, rfl, Below.refl _ _⟩
  case round =>
    obtain ⟨n, hn, hq, rfl, hbr⟩ := hrel
    by_cases hlt : n < st'.names.length
    · obtain ⟨k, hk, hf1, hf2⟩ := HFI.out n hlt
      obtain ⟨a', c', he, _, _, hc⟩ := HBA5.out.names.below hbr
      simp only [Value.slice.injEq, true_and] at he
      obtain ⟨rfl, rfl⟩ := he
      obtain ⟨bq, oq, rfl, hcq⟩ := hc n hlt
      clear hc
      have hyr := (hbr.block _ (box_lt hy1)).trans hy1
      have e2 := box_cell hyr 2
      simp only [List.getElem?_toArray, List.getElem?_cons_zero, List.getElem?_cons_succ] at e2
      have hix := IndexS_any _ st.names st'.names[n] wr (HBD.out.names.below (ext_trans hb5 hbr))
      rw [hf1] at hix
      unfold optI at hix
      have HIX := Lib.hid hix
      have HF2 := Lib.hid hf2
      clear hix hf1 hf2
      generalize st'.names[n] = nm at *
      go_wp2_with fail
      refine HIX.out.mono ?_
      rintro e w6 ⟨rfl, hb6⟩
      have hbr6 := ext_trans hbr hb6
      obtain ⟨hn3, hn4⟩ := List.getElem?_eq_some_iff.1 HF2.out
      have HN4 := Lib.hid hn4
      clear hn4
      obtain ⟨g1, o1, hg1, q0, q1, q2, q3, q4, q5, q6⟩ := ValsAt.at (HBD.out.named.below (ext_trans hb5 hbr6)) hk
      obtain ⟨g2, o2, hg2, r0, r1, r2, r3, r4, r5, r6⟩ := ValsAt.at (HBA5.out.named.below hbr6) hn3
      subst hg1
      subst hg2
      rw [HN4.out] at r0 r1 r2 r3 r4 r5 r6
      have hsv := fun W (h : Below w.heap.size w W) => SameValue_any st.named[k] W ((G2.out _ (List.getElem_mem hk)).below h)
      generalize st.named[k] = x at *
      obtain ⟨kx, nx, nax, nlx, ncx, dx, dax, dlx, dcx, sx, rx⟩ := x
      unfold valA at hsv
      simp only at q0 q1 q2 q3 q4 q5 q6 r0 r1 r2 r3 r4 r5 r6 hsv
      have HSV := Lib.hid hsv
      clear hsv HIX e2 hcq
      have hy6 := (hbr6.block _ (box_lt hy1)).trans hy1
      have hz6 := (hbr6.block _ (box_lt hz1)).trans hz1
      have e3 := box_cell hy6 3
      have f3 := box_cell hz6 3
      simp only [List.getElem?_toArray, List.getElem?_cons_zero, List.getElem?_cons_succ] at e3 f3
      have hS0 : Cs [(⟨NB, 3, none⟩, .slice (some ⟨g1, o1, none⟩) st.named.length k3), (⟨g1, o1 + k * 7, none⟩, .int .i64 kx), (⟨g1, o1 + k * 7 + 1, none⟩, .bool nx), (⟨g1, o1 + k * 7 + 2, none⟩, .slice nax nlx ncx), (⟨g1, o1 + k * 7 + 3, none⟩, .bool dx), (⟨g1, o1 + k * 7 + 4, none⟩, .slice dax dlx dcx), (⟨g1, o1 + k * 7 + 5, none⟩, .string sx), (⟨g1, o1 + k * 7 + 6, none⟩, .int .i64 rx), (⟨NC, 3, none⟩, .slice (some ⟨g2, o2, none⟩) st'.named.length c3), (⟨g2, o2 + n * 7, none⟩, .int .i64 kx), (⟨g2, o2 + n * 7 + 1, none⟩, .bool nx), (⟨g2, o2 + n * 7 + 2, none⟩, .slice nax nlx ncx), (⟨g2, o2 + n * 7 + 3, none⟩, .bool dx), (⟨g2, o2 + n * 7 + 4, none⟩, .slice dax dlx dcx), (⟨g2, o2 + n * 7 + 5, none⟩, .string sx), (⟨g2, o2 + n * 7 + 6, none⟩, .int .i64 rx)] w6.drew := by
        simp only [Cs, List.forall_mem_cons]
        exact ⟨e3, q0, q1, q2, q3, q4, q5, q6, f3, r0, r1, r2, r3, r4, r5, r6, fun _ h => by cases h⟩
      go_wp2
      clear e3 f3 q0 q1 q2 q3 q4 q5 q6 r0 r1 r2 r3 r4 r5 r6 hy6 hz6 hyr
      refine wp_region_noPanic ?_
      refine wp_region_L (S := fun L W => L.getD 13 false = false → Cs [(⟨NB, 3, none⟩, .slice (some ⟨g1, o1, none⟩) st.named.length k3), (⟨g1, o1 + k * 7, none⟩, .int .i64 kx), (⟨g1, o1 + k * 7 + 1, none⟩, .bool nx), (⟨g1, o1 + k * 7 + 2, none⟩, .slice nax nlx ncx), (⟨g1, o1 + k * 7 + 3, none⟩, .bool dx), (⟨g1, o1 + k * 7 + 4, none⟩, .slice dax dlx dcx), (⟨g1, o1 + k * 7 + 5, none⟩, .string sx), (⟨g1, o1 + k * 7 + 6, none⟩, .int .i64 rx), (⟨NC, 3, none⟩, .slice (some ⟨g2, o2, none⟩) st'.named.length c3), (⟨g2, o2 + n * 7, none⟩, .int .i64 kx), (⟨g2, o2 + n * 7 + 1, none⟩, .bool nx), (⟨g2, o2 + n * 7 + 2, none⟩, .slice nax nlx ncx), (⟨g2, o2 + n * 7 + 3, none⟩, .bool dx), (⟨g2, o2 + n * 7 + 4, none⟩, .slice dax dlx dcx), (⟨g2, o2 + n * 7 + 5, none⟩, .string sx), (⟨g2, o2 + n * 7 + 6, none⟩, .int .i64 rx)] W) (by kernel_rfl) ?_
      refine wpAnyL_take (T := fun _ => True) (i := 0) (v := ?vv0) rfl (by kernel_rfl) (by kernel_rfl) (by kernel_rfl) (fun _ _ _ h => h) (fun L W => by rw [getD_put_ne L (show 0 ≠ 13 by decide)]) (fun _ _ _ _ _ => trivial) (Closed.of_B (by kernel_rfl)) (Or.inl ⟨by kernel_rfl, ?hy0⟩) (fun _ => hS0) ?rest0
      case hy0 => (intro w _; go_simp; with_reducible rfl)
      refine wpAnyL_take (T := fun _ => True) (i := 1) (v := ?vv1) rfl (by kernel_rfl) (by kernel_rfl) (by kernel_rfl) (fun _ _ _ h => h) (fun L W => by rw [getD_put_ne L (show 1 ≠ 13 by decide)]) (fun _ _ _ _ _ => trivial) (Closed.of_B (by kernel_rfl)) (Or.inl ⟨by kernel_rfl, ?hy1⟩) (fun _ => hS0) ?rest1
      case hy1 => (intro w _; go_simp; with_reducible rfl)
      refine wpAnyL_take (T := fun _ => True) (i := 2) (v := ?vv2) rfl (by kernel_rfl) (by kernel_rfl) (by kernel_rfl) (fun _ _ _ h => h) (fun L W => by rw [getD_put_ne L (show 2 ≠ 13 by decide)]) (fun _ _ _ _ _ => trivial) (Closed.of_B (by kernel_rfl)) (Or.inl ⟨by kernel_rfl, ?hy2⟩) (fun _ => hS0) ?rest2
      case hy2 => (intro w _; go_simp; with_reducible rfl)
      refine wpAnyL_take (T := fun _ => True) (i := 3) (v := ?vv3) rfl (by kernel_rfl) (by kernel_rfl) (by kernel_rfl) (fun _ _ _ h => h) (fun L W => by rw [getD_put_ne L (show 3 ≠ 13 by decide)]) (fun _ _ _ _ _ => trivial) (Closed.of_B (by kernel_rfl)) (Or.inl ⟨by kernel_rfl, ?hy3⟩) (fun _ => hS0) ?rest3
      case hy3 => (intro w _; go_simp; with_reducible rfl)
      refine wpAnyL_take (T := fun W => Cs [(⟨NB, 3, none⟩, .slice (some ⟨g1, o1, none⟩) st.named.length k3), (⟨g1, o1 + k * 7, none⟩, .int .i64 kx), (⟨g1, o1 + k * 7 + 1, none⟩, .bool nx), (⟨g1, o1 + k * 7 + 2, none⟩, .slice nax nlx ncx), (⟨g1, o1 + k * 7 + 3, none⟩, .bool dx), (⟨g1, o1 + k * 7 + 4, none⟩, .slice dax dlx dcx), (⟨g1, o1 + k * 7 + 5, none⟩, .string sx), (⟨g1, o1 + k * 7 + 6, none⟩, .int .i64 rx), (⟨NC, 3, none⟩, .slice (some ⟨g2, o2, none⟩) st'.named.length c3), (⟨g2, o2 + n * 7, none⟩, .int .i64 kx), (⟨g2, o2 + n * 7 + 1, none⟩, .bool nx), (⟨g2, o2 + n * 7 + 2, none⟩, .slice nax nlx ncx), (⟨g2, o2 + n * 7 + 3, none⟩, .bool dx), (⟨g2, o2 + n * 7 + 4, none⟩, .slice dax dlx dcx), (⟨g2, o2 + n * 7 + 5, none⟩, .string sx), (⟨g2, o2 + n * 7 + 6, none⟩, .int .i64 rx)] W) (i := 4) (v := ?vv4) rfl (by kernel_rfl) (by kernel_rfl) (by kernel_rfl) (fun _ _ _ h => h) (fun L W => by rw [getD_put_ne L (show 4 ≠ 13 by decide)]) (fun L W hcl hl hS => hS (hcl.notYet (i := 7) (by kernel_rfl) (hcl.notYet (i := 6) (by kernel_rfl) (hcl.notYet (by kernel_rfl) (getD_false hl))))) (Closed.of_B (by kernel_rfl)) (Or.inl ⟨by kernel_rfl, ?hy4⟩) (fun _ => hS0) ?rest4
      case hy4 => (intro W hW; simp only [Cs, List.forall_mem_cons] at hW; obtain ⟨m0, m1, m2, m3, m4, m5, m6, m7, m8, m9, m10, m11, m12, m13, m14, m15, -⟩ := hW; go_simp; with_reducible rfl)
      refine wpAnyL_take (T := fun _ => True) (i := 5) (v := ?vv5) rfl (by kernel_rfl) (by kernel_rfl) (by kernel_rfl) (fun _ _ _ h => h) (fun L W => by rw [getD_put_ne L (show 5 ≠ 13 by decide)]) (fun _ _ _ _ _ => trivial) (Closed.of_B (by kernel_rfl)) (Or.inl ⟨by kernel_rfl, ?hy5⟩) (fun _ => hS0) ?rest5
      case hy5 => (intro w _; go_simp; with_reducible rfl)
      refine wpAnyL_take (T := fun _ => True) (i := 6) (v := ?vv6) rfl (by kernel_rfl) (by kernel_rfl) (by kernel_rfl) (fun _ _ _ h => h) (fun L W => by rw [getD_put_ne L (show 6 ≠ 13 by decide)]) (fun _ _ _ _ _ => trivial) (Closed.of_B (by kernel_rfl)) (Or.inl ⟨by kernel_rfl, ?hy6⟩) (fun _ => hS0) ?rest6
      case hy6 => (intro w _; go_simp; with_reducible rfl)
      refine wpAnyL_take (T := fun W => Cs [(⟨NB, 3, none⟩, .slice (some ⟨g1, o1, none⟩) st.named.length k3), (⟨g1, o1 + k * 7, none⟩, .int .i64 kx), (⟨g1, o1 + k * 7 + 1, none⟩, .bool nx), (⟨g1, o1 + k * 7 + 2, none⟩, .slice nax nlx ncx), (⟨g1, o1 + k * 7 + 3, none⟩, .bool dx), (⟨g1, o1 + k * 7 + 4, none⟩, .slice dax dlx dcx), (⟨g1, o1 + k * 7 + 5, none⟩, .string sx), (⟨g1, o1 + k * 7 + 6, none⟩, .int .i64 rx), (⟨NC, 3, none⟩, .slice (some ⟨g2, o2, none⟩) st'.named.length c3), (⟨g2, o2 + n * 7, none⟩, .int .i64 kx), (⟨g2, o2 + n * 7 + 1, none⟩, .bool nx), (⟨g2, o2 + n * 7 + 2, none⟩, .slice nax nlx ncx), (⟨g2, o2 + n * 7 + 3, none⟩, .bool dx), (⟨g2, o2 + n * 7 + 4, none⟩, .slice dax dlx dcx), (⟨g2, o2 + n * 7 + 5, none⟩, .string sx), (⟨g2, o2 + n * 7 + 6, none⟩, .int .i64 rx)] W) (i := 7) (v := ?vv7) rfl (by kernel_rfl) (by kernel_rfl) (by kernel_rfl) (fun _ _ _ h => h) (fun L W => by rw [getD_put_ne L (show 7 ≠ 13 by decide)]) (fun L W hcl hl hS => hS (hcl.notYet (by kernel_rfl) (getD_false hl))) (Closed.of_B (by kernel_rfl)) (Or.inl ⟨by kernel_rfl, ?hy7⟩) (fun _ => hS0) ?rest7
      case hy7 => (intro W hW; simp only [Cs, List.forall_mem_cons] at hW; obtain ⟨m0, m1, m2, m3, m4, m5, m6, m7, m8, m9, m10, m11, m12, m13, m14, m15, -⟩ := hW; go_simp; with_reducible rfl)
      refine wpAnyL_take (T := fun _ => True) (i := 8) (v := ?vv8) rfl (by kernel_rfl) (by kernel_rfl) (by kernel_rfl) (fun _ _ _ h => h) (fun L W => by rw [getD_put_ne L (show 8 ≠ 13 by decide)]) (fun _ _ _ _ _ => trivial) (Closed.of_B (by kernel_rfl)) (Or.inl ⟨by kernel_rfl, ?hy8⟩) (fun _ => hS0) ?rest8
      case hy8 => (intro w _; go_simp; with_reducible rfl)
      refine wpAnyL_take (T := fun W => Cs [(⟨NB, 3, none⟩, .slice (some ⟨g1, o1, none⟩) st.named.length k3), (⟨g1, o1 + k * 7, none⟩, .int .i64 kx), (⟨g1, o1 + k * 7 + 1, none⟩, .bool nx), (⟨g1, o1 + k * 7 + 2, none⟩, .slice nax nlx ncx), (⟨g1, o1 + k * 7 + 3, none⟩, .bool dx), (⟨g1, o1 + k * 7 + 4, none⟩, .slice dax dlx dcx), (⟨g1, o1 + k * 7 + 5, none⟩, .string sx), (⟨g1, o1 + k * 7 + 6, none⟩, .int .i64 rx), (⟨NC, 3, none⟩, .slice (some ⟨g2, o2, none⟩) st'.named.length c3), (⟨g2, o2 + n * 7, none⟩, .int .i64 kx), (⟨g2, o2 + n * 7 + 1, none⟩, .bool nx), (⟨g2, o2 + n * 7 + 2, none⟩, .slice nax nlx ncx), (⟨g2, o2 + n * 7 + 3, none⟩, .bool dx), (⟨g2, o2 + n * 7 + 4, none⟩, .slice dax dlx dcx), (⟨g2, o2 + n * 7 + 5, none⟩, .string sx), (⟨g2, o2 + n * 7 + 6, none⟩, .int .i64 rx)] W) (i := 9) (v := ?vv9) rfl (by kernel_rfl) (by kernel_rfl) (by kernel_rfl) (fun _ _ _ h => h) (fun L W => by rw [getD_put_ne L (show 9 ≠ 13 by decide)]) (fun L W hcl hl hS => hS (hcl.notYet (i := 12) (by kernel_rfl) (hcl.notYet (i := 11) (by kernel_rfl) (hcl.notYet (by kernel_rfl) (getD_false hl))))) (Closed.of_B (by kernel_rfl)) (Or.inl ⟨by kernel_rfl, ?hy9⟩) (fun _ => hS0) ?rest9
      case hy9 => (intro W hW; simp only [Cs, List.forall_mem_cons] at hW; obtain ⟨m0, m1, m2, m3, m4, m5, m6, m7, m8, m9, m10, m11, m12, m13, m14, m15, -⟩ := hW; go_simp; with_reducible rfl)
      refine wpAnyL_take (T := fun _ => True) (i := 10) (v := ?vv10) rfl (by kernel_rfl) (by kernel_rfl) (by kernel_rfl) (fun _ _ _ h => h) (fun L W => by rw [getD_put_ne L (show 10 ≠ 13 by decide)]) (fun _ _ _ _ _ => trivial) (Closed.of_B (by kernel_rfl)) (Or.inl ⟨by kernel_rfl, ?hy10⟩) (fun _ => hS0) ?rest10
      case hy10 => (intro w _; go_simp; with_reducible rfl)
      refine wpAnyL_take (T := fun _ => True) (i := 11) (v := ?vv11) rfl (by kernel_rfl) (by kernel_rfl) (by kernel_rfl) (fun _ _ _ h => h) (fun L W => by rw [getD_put_ne L (show 11 ≠ 13 by decide)]) (fun _ _ _ _ _ => trivial) (Closed.of_B (by kernel_rfl)) (Or.inl ⟨by kernel_rfl, ?hy11⟩) (fun _ => hS0) ?rest11
      case hy11 => (intro w _; go_simp; with_reducible rfl)
      refine wpAnyL_take (T := fun W => Cs [(⟨NB, 3, none⟩, .slice (some ⟨g1, o1, none⟩) st.named.length k3), (⟨g1, o1 + k * 7, none⟩, .int .i64 kx), (⟨g1, o1 + k * 7 + 1, none⟩, .bool nx), (⟨g1, o1 + k * 7 + 2, none⟩, .slice nax nlx ncx), (⟨g1, o1 + k * 7 + 3, none⟩, .bool dx), (⟨g1, o1 + k * 7 + 4, none⟩, .slice dax dlx dcx), (⟨g1, o1 + k * 7 + 5, none⟩, .string sx), (⟨g1, o1 + k * 7 + 6, none⟩, .int .i64 rx), (⟨NC, 3, none⟩, .slice (some ⟨g2, o2, none⟩) st'.named.length c3), (⟨g2, o2 + n * 7, none⟩, .int .i64 kx), (⟨g2, o2 + n * 7 + 1, none⟩, .bool nx), (⟨g2, o2 + n * 7 + 2, none⟩, .slice nax nlx ncx), (⟨g2, o2 + n * 7 + 3, none⟩, .bool dx), (⟨g2, o2 + n * 7 + 4, none⟩, .slice dax dlx dcx), (⟨g2, o2 + n * 7 + 5, none⟩, .string sx), (⟨g2, o2 + n * 7 + 6, none⟩, .int .i64 rx)] W) (i := 12) (v := ?vv12) rfl (by kernel_rfl) (by kernel_rfl) (by kernel_rfl) (fun _ _ _ h => h) (fun L W => by rw [getD_put_ne L (show 12 ≠ 13 by decide)]) (fun L W hcl hl hS => hS (hcl.notYet (by kernel_rfl) (getD_false hl))) (Closed.of_B (by kernel_rfl)) (Or.inl ⟨by kernel_rfl, ?hy12⟩) (fun _ => hS0) ?rest12
      case hy12 => (intro W hW; simp only [Cs, List.forall_mem_cons] at hW; obtain ⟨m0, m1, m2, m3, m4, m5, m6, m7, m8, m9, m10, m11, m12, m13, m14, m15, -⟩ := hW; go_simp; with_reducible rfl)
      refine wpAnyL_ready (rs := [13]) (by kernel_rfl) (by simp) ?_
      refine AllL.cons rfl (by kernel_rfl) (fun K hK => ?_) AllL.nil
      go_simp
      refine (HSV.out w6.drew ((ext_trans hb5 hbr6).drew)).mono ?_
      rintro e w7 ⟨rfl, hb67⟩
      refine hK _ _ ⟨fun h => Bool.noConfusion ((show _ = true by kernel_rfl).symm.trans h), ?_⟩
      clear hK K hS0
      refine wpAnyL_ready (rs := [14]) (by kernel_rfl) (by simp) ?_
      refine AllL.cons rfl (by kernel_rfl) (fun K hK => ?_) AllL.nil
      go_simp
      refine hK _ _ ⟨fun h => Bool.noConfusion ((show _ = true by kernel_rfl).symm.trans h), ?_⟩
      clear hK K
      refine wpAnyL_ready (rs := [15]) (by kernel_rfl) (by simp) ?_
      refine AllL.cons rfl (by kernel_rfl) (fun K hK => ?_) AllL.nil
      go_simp
      refine hK _ _ ⟨fun h => Bool.noConfusion ((show _ = true by kernel_rfl).symm.trans h), ?_⟩
      clear hK K
      refine wpAnyL_done (by kernel_rfl) ?_ _
      refine NoPanic.normal ?_
      go_wp2
      go_roundg (st'.names.length - (n + 1))
      case measure => omega
      case rel => exact ⟨n + 1, by omega, by omega, by go_num, ext_trans (hbr6.drew) hb67⟩
    · go_wp2
      go_ret
      exact ⟨rfl, ext_trans hb5 hbr⟩
end Go.Proofs.Ytbickehhnkhabaa
