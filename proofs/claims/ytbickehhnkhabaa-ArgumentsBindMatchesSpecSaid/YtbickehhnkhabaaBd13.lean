/- Walk: the law ArgumentsBindMatchesSpec. -/
import Derived.Test.YtbickehhnkhabaaBd12
import Derived.Test.YtbickehhnkhabaaBd13a
import Derived.Test.YtbickehhnkhabaaArg5
namespace Go.Proofs.Ytbickehhnkhabaa
open Go.RowKit

theorem BoundPost.form {w w' : World} {fn : ByteArray} {ps : List Par} {ds l : List Val} {nv : List (ByteArray × Val)} {e : Ending} (h : BoundPost w fn ps ds l nv e w') :
    ∃ b0 b1 b2 b3 t vals rest nms nmd, e = .returned (.tuple #[.agg #[b0, b1, b2, b3], .string t]) ∧ BoundAt w' b0 b1 b2 b3 vals rest nms nmd ∧ ResOf fn (refF unbV ps ds l nv) t vals rest nms nmd := by
  rcases h.2 with ⟨m, hb, rfl⟩ | ⟨st, rest, vv, rv, nv, mv, hb, rfl, hB⟩
  · exact ⟨_, _, _, _, _, [], [], [], [], rfl, BoundAt.nil w', .inl ⟨m, hb, rfl, rfl, rfl, rfl, rfl⟩⟩
  · exact ⟨_, _, _, _, _, st.vals, rest, st.names, st.named, rfl, hB, .inr ⟨hb, rfl⟩⟩

set_option maxRecDepth 100000 in
set_option maxHeartbeats 4000000 in
theorem BindLaw_any (pv dv lv nv mv : Value) (fn : ByteArray) (ps : List Par) (ds l : List Val) (names : List ByteArray) (named : List Val) (w : World)
    (hv : ParamsAt w pv ps) (hd : ValsAt w dv ds) (hl : ValsAt w lv l) (hn : RowOf Value.string w nv names) (hm : ValsAt w mv named)
    (gd : ∀ x ∈ ds, GoodVal w x) (gl : ∀ x ∈ l, GoodVal w x) (gm : ∀ x ∈ named, GoodVal w x)
    (hdl : ds.length ≤ 140737488355328) (hll : l.length ≤ 140737488355328) (hnl : names.length ≤ 140737488355328) (hml : named.length ≤ 140737488355328) (hfn : fn.size ≤ 140737488355328) (hsz : ∀ p ∈ ps, p.s.size ≤ 140737488355328) (hns : ∀ s ∈ names, s.size ≤ 140737488355328) :
    Calls Try.prog 7 #[pv, dv, .agg #[lv, nv, mv], .string fn] w fun e w' => e = .returned (.bool true) ∧ Below w.heap.size w w' := by
  have hb0 := ext_alloc w (.cells #[lv, nv, mv] 39)
  have hx0 := heap_new w (.cells #[lv, nv, mv] 39)
  have H1 := Lib.hid (fun W (h : Below w.heap.size w W) => Bind_any pv dv lv nv mv fn ps ds l names named W (hv.below h) (hd.below h) (hl.below h) (hn.below h) (hm.below h) hll hnl hml hfn hsz hns)
  have HPF := Lib.hid (fun W (h : Below w.heap.size w W) => ParamsFault_any pv ps W (hv.below h) (fun p hp => by have := hsz p hp; omega))
  have HV := Lib.hid hv
  have HD := Lib.hid hd
  have HL := Lib.hid hl
  have HN := Lib.hid hn
  have HM := Lib.hid hm
  have HGD := Lib.hid gd
  have HGL := Lib.hid gl
  have HGM := Lib.hid gm
  have HSZ := Lib.hid hsz
  have HNS := Lib.hid hns
  obtain ⟨pa, pc, rfl⟩ := hv.len
  obtain ⟨da, dc, rfl⟩ := hd.isSlice
  obtain ⟨la, lc, rfl⟩ := hl.isSlice
  obtain ⟨ma, mc, rfl⟩ := hm.isSlice
  obtain ⟨na, nc, rfl⟩ : ∃ na nc, nv = .slice na names.length nc := by obtain ⟨a, c, rfl, _⟩ := hn; exact ⟨_, _, rfl⟩
  clear hv hd hl hn hm gd gl gm hsz hns
  go_enter Try.func7, Try.ntmps7
  go_upto_region 1 with fail
  generalize (w.alloc (.cells #[.slice la l.length lc, .slice na names.length nc, .slice ma named.length mc] 39)) = w1 at *
  have c0 := box_cell hx0 0
  have c1 := box_cell hx0 1
  have c2 := box_cell hx0 2
  simp only [List.getElem?_toArray, List.getElem?_cons_zero, List.getElem?_cons_succ] at c0 c1 c2
  go_wp2_with fail
  refine (H1.out w1 hb0).mono ?_
  rintro e w2 hpost
  have HP := Lib.hid hpost
  clear hpost H1 c0 c1 c2
  have HB2 := HP.out.1
  have hx2 := (HB2.block _ (box_lt hx0)).trans hx0
  have hb2 := ext_trans hb0 HB2
  clear hx0 hb0 HB2
  have H2 := Lib.hid (fun W (h : Below w.heap.size w W) => BindFault_any (.slice pa ps.length pc) (.slice la l.length lc) (.slice ma named.length mc) da na dc nc ps ds.length names.length l named W (HV.out.below h) (HL.out.below h) (HM.out.below h) hdl hnl hll hml (fun W2 h2 => HPF.out W2 (ext_trans h h2)))
  obtain ⟨b0, b1, b2, b3, t, c, i, vals, rest, nms, nmd, rfl, hff, hbd, hres⟩ := HP.out.form
  obtain ⟨a0, n0, k0, a1, n1, k1, a2, n2, k2, a3, n3, k3, rfl, rfl, rfl, rfl⟩ := hbd.slices
  have HFF := Lib.hid hff
  have HBD := Lib.hid hbd
  have HRES := Lib.hid hres
  clear hff hbd hres HP
  simp only [faultV]
  have hbA := ext_alloc w2 (.cells #[.slice a0 n0 k0, .slice a1 n1 k1, .slice a2 n2 k2, .slice a3 n3 k3] 41)
  have hy2 := heap_new w2 (.cells #[.slice a0 n0 k0, .slice a1 n1 k1, .slice a2 n2 k2, .slice a3 n3 k3] 41)
  have hbB := ext_alloc (w2.alloc (.cells #[.slice a0 n0 k0, .slice a1 n1 k1, .slice a2 n2 k2, .slice a3 n3 k3] 41)) (.cells #[.int .i64 c, .int .i64 i] 27)
  have hz2 := heap_new (w2.alloc (.cells #[.slice a0 n0 k0, .slice a1 n1 k1, .slice a2 n2 k2, .slice a3 n3 k3] 41)) (.cells #[.int .i64 c, .int .i64 i] 27)
  rw [show (w2.alloc (.cells #[.slice a0 n0 k0, .slice a1 n1 k1, .slice a2 n2 k2, .slice a3 n3 k3] 41)).heap.size = w2.heap.size + 1 by simp] at hz2
  replace hy2 := (hbB.block _ (box_lt hy2)).trans hy2
  have hb23 := ext_trans hbA hbB
  clear hbA hbB
  go_upto_region 2 with fail
  generalize ((w2.alloc (.cells #[.slice a0 n0 k0, .slice a1 n1 k1, .slice a2 n2 k2, .slice a3 n3 k3] 41)).alloc (.cells #[.int .i64 c, .int .i64 i] 27)) = w3 at *
  replace hx2 := (hb23.block _ (box_lt hx2)).trans hx2
  have hb3 := ext_trans hb2 hb23
  have HBD3 := Lib.hid (HBD.out.below hb23)
  clear hb23 hb2 HBD
  generalize w2.heap.size + 1 = NF at *
  generalize w2.heap.size = NB at *
  have c0 := box_cell hx2 0
  have c1 := box_cell hx2 1
  have c2 := box_cell hx2 2
  simp only [List.getElem?_toArray, List.getElem?_cons_zero, List.getElem?_cons_succ] at c0 c1 c2
  go_wp2_with fail
  refine (H2.out w3 hb3).mono ?_
  rintro e w4 ⟨rfl, hb34⟩
  rw [HFF.out]
  simp only [faultV]
  replace hx2 := (hb34.block _ (box_lt hx2)).trans hx2
  replace hy2 := (hb34.block _ (box_lt hy2)).trans hy2
  replace hz2 := (hb34.block _ (box_lt hz2)).trans hz2
  have hb4 := ext_trans hb3 hb34
  have HBD4 := Lib.hid (HBD3.out.below hb34)
  clear hb34 hb3 HBD3 H2 c0 c1 c2
  have hbC := ext_alloc w4 (.cells #[.int .i64 c, .int .i64 i] 27)
  have hw4 := heap_new w4 (.cells #[.int .i64 c, .int .i64 i] 27)
  go_upto_region 3 with fail
  generalize (w4.alloc (.cells #[.int .i64 c, .int .i64 i] 27)) = w5 at *
  replace hx2 := (hbC.block _ (box_lt hx2)).trans hx2
  replace hy2 := (hbC.block _ (box_lt hy2)).trans hy2
  replace hz2 := (hbC.block _ (box_lt hz2)).trans hz2
  have hb5 := ext_trans hb4 hbC
  have HBD5 := Lib.hid (HBD4.out.below hbC)
  clear hbC hb4 HBD4
  generalize w4.heap.size = NW at *
  obtain ⟨p0, p1, -, -⟩ := box2 hz2
  obtain ⟨q0, q1, -, -⟩ := box2 hw4
  obtain ⟨y0, y1, y2, y3, -, -⟩ := box4 hy2
  by_cases hc : c = 0
  · have hzz := bindFF_zero (show (bindFF ps ds.length l names.length named).1 = 0 by rw [HFF.out]; exact hc)
    obtain ⟨hp0, hsn, hnm, hlm, hlu, hmu, -⟩ := hzz
    obtain ⟨hp12, hbad, -⟩ := parF_zero hp0
    have hgood := good_of ps hbad
    have heq := bind_eq (u := unbV) (isU := isUV) hgood rfl ds l (names.zip named) hlu (fun x hx => hmu x.2 (List.of_mem_zip hx).2)
    have hr1 : ResOf fn (refF unbV ps ds l (names.zip named)) t vals rest nms nmd := by
      rw [← heq]
      rcases HRES.out with h | h
      · exact absurd hc h.1
      · exact h.2
    have hPall : (∀ x ∈ vals, GoodVal w x) ∧ (∀ x ∈ rest, GoodVal w x) ∧ ∀ x ∈ nmd, GoodVal w x := by
      rcases HRES.out with h | ⟨_, h⟩
      · exact absurd hc h.1
      · rcases h with ⟨m, _, _, rfl, rfl, rfl, rfl⟩ | ⟨h, _⟩
        · exact ⟨fun x hx => by simp at hx, fun x hx => by simp at hx, fun x hx => by simp at hx⟩
        · exact bindF_all (GoodVal.unb w) h HGL.out HGD.out (fun x hx => HGM.out x.2 (List.of_mem_zip hx).2)
    have HR1 := Lib.hid hr1
    have HPA := Lib.hid hPall
    have hBound := Bound_any _ _ _ _ _ fn ps ds l names named w5 (HV.out.below hb5) (HD.out.below hb5) (HL.out.below hb5) (HN.out.below hb5) (HM.out.below hb5) hp12 (n_le_one hbad) hsn.symm hnm hlm hfn HSZ.out HNS.out
    have HBO := Lib.hid hBound
    clear hBound hr1 hPall heq hgood hp0 hsn hnm hlm hlu hmu hp12 hbad HRES HFF
    subst hc
    have c0 := box_cell hx2 0
    have c1 := box_cell hx2 1
    have c2 := box_cell hx2 2
    simp only [List.getElem?_toArray, List.getElem?_cons_zero, List.getElem?_cons_succ] at c0 c1 c2
    go_wp2_with fail
    refine HBO.out.mono ?_
    rintro e w6 hpost
    have HP := Lib.hid hpost
    clear hpost HBO c0 c1 c2
    have hb56 := HP.out.1
    obtain ⟨d0, d1, d2, d3, t', vals', rest', nms', nmd', rfl, hbd, hres⟩ := HP.out.form
    obtain ⟨rfl, rfl, rfl, rfl, rfl⟩ := HR1.out.same hres
    have HBO6 := Lib.hid hbd
    have HBD6 := Lib.hid (HBD5.out.below hb56)
    have hb6 := ext_trans hb5 hb56
    replace hy2 := (hb56.block _ (box_lt hy2)).trans hy2
    replace hz2 := (hb56.block _ (box_lt hz2)).trans hz2
    obtain ⟨e0, m0, r0, e1, m1, r1, e2, m2, r2, e3, m3, r3, rfl, rfl, rfl, rfl⟩ := hbd.slices
    clear hres hbd HP HR1 hb56 HBD5 hb5 p0 p1 q0 q1 y0 y1 y2 y3 hw4 hx2
    have hbD := ext_alloc w6 (.cells #[.slice e0 m0 r0, .slice e1 m1 r1, .slice e2 m2 r2, .slice e3 m3 r3] 41)
    have hv6 := heap_new w6 (.cells #[.slice e0 m0 r0, .slice e1 m1 r1, .slice e2 m2 r2, .slice e3 m3 r3] 41)
    go_upto_region 6 with fail
    generalize (w6.alloc (.cells #[.slice e0 m0 r0, .slice e1 m1 r1, .slice e2 m2 r2, .slice e3 m3 r3] 41)) = w7 at *
    replace hy2 := (hbD.block _ (box_lt hy2)).trans hy2
    replace hz2 := (hbD.block _ (box_lt hz2)).trans hz2
    have hb7 := ext_trans hb6 hbD
    have hsb := SameBound_any _ _ _ _ _ _ _ _ _ _ _ _ w7 (HBD6.out.below hbD) (HBO6.out.below hbD) (fun x hx => (HPA.out.1 x hx).below hb7) (fun x hx => (HPA.out.2.1 x hx).below hb7) (fun x hx => (HPA.out.2.2 x hx).below hb7)
    have HSB := Lib.hid hsb
    clear hsb hbD hb6
    obtain ⟨p0, p1, -, -⟩ := box2 hz2
    obtain ⟨y0, y1, y2, y3, -, -⟩ := box4 hy2
    obtain ⟨v0, v1, v2, v3, -, -⟩ := box4 hv6
    go_wp2_with fail
    refine HSB.out.mono ?_
    rintro e w8 ⟨rfl, hb78⟩
    go_wp2
    go_ret
    exact ⟨rfl, ext_trans hb7 hb78⟩
  · have hcb : (c != 0) = true := by simpa using hc
    have hr1 : t = ⟨#[]⟩ ∧ vals = [] ∧ rest = [] ∧ nms = [] ∧ nmd = [] := by
      rcases HRES.out with h | h
      · exact h.2
      · exact absurd h.1 hc
    obtain ⟨rfl, rfl, rfl, rfl, rfl⟩ := hr1
    have hsb := SameBound_any _ _ _ _ _ _ _ _ _ _ _ _ w5 HBD5.out (BoundAt.nil w5) (fun x hx => by simp at hx) (fun x hx => by simp at hx) (fun x hx => by simp at hx)
    have HSB := Lib.hid hsb
    clear hsb hc HRES HFF
    go_wp2_with fail
    refine HSB.out.mono ?_
    rintro e w8 ⟨rfl, hb78⟩
    go_wp2
    go_ret
    exact ⟨rfl, ext_trans hb5 hb78⟩
end Go.Proofs.Ytbickehhnkhabaa
