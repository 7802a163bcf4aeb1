/- Walk: the law ArgumentsByName. -/
import Derived.Test.YtbickehhnkhabaaBd19
import Derived.Test.YtbickehhnkhabaaBd18
import Derived.Deep.RegionLaw
namespace Go.Proofs.Ytbickehhnkhabaa
open Go.RowKit

theorem bindFF_of {ps : List Par} {dn nn : Nat} {l named : List Val} (h1 : (parF ps).1 = 0) (h2 : sumN ps = dn) (h3 : nn = named.length) (h4 : l.length + nn ≤ 1000) (h5 : ∀ x ∈ l, isUV x = false) (h6 : ∀ x ∈ named, isUV x = false) : (bindFF ps dn l nn named).1 = 0 := by
  unfold bindFF
  rw [if_neg (by simpa using h1), if_neg (by simpa using h2), if_neg (by simpa using h3), if_neg (by omega), List.findIdx?_eq_none_iff.2 h5]
  simp only [List.findIdx?_eq_none_iff.2 h6]

/-- The arguments of a call of binds that gives the same but for the order. -/
theorem binds_rel (pv dv lv nv mv b0 b1 b2 b3 : Value) (ps : List Par) (ds l : List Val) (names : List ByteArray) (named : List Val) (st st' : BSt Val) (rest : List Val) (w : World)
    (hv : ParamsAt w pv ps) (hd : ValsAt w dv ds) (hl : ValsAt w lv l) (hn : RowOf Value.string w nv names) (hm : ValsAt w mv named)
    (hp0 : (parF ps).1 = 0) (hsn : sumN ps = ds.length) (hnm : names.length = named.length) (hlm : l.length + names.length ≤ 1000) (hlu : ∀ x ∈ l, isUV x = false) (hmu : ∀ x ∈ named, isUV x = false)
    (hsz : ∀ p ∈ ps, p.s.size ≤ 140737488355328) (hns : ∀ s ∈ names, s.size ≤ 140737488355328)
    (hbd : BoundAt w b0 b1 b2 b3 st.vals rest st.names st.named) (hx : bindF unbV isUV ps ds l (names.zip named) = .inr (st', rest)) (hr : RelB st st') (hnd : st.names.Nodup)
    (g0 : ∀ x ∈ st.vals, GoodVal w x) (g1 : ∀ x ∈ rest, GoodVal w x) (g2 : ∀ x ∈ st.named, GoodVal w x) :
    Calls Try.prog 24 #[pv, dv, .agg #[lv, nv, mv], .agg #[b0, b1, b2, b3]] w fun e w' => e = .returned (.bool true) ∧ Below w.heap.size w w' := by
  obtain ⟨f1, f2⟩ := hr.find hnd
  exact binds_any pv dv lv nv mv b0 b1 b2 b3 ps ds l names named st st' rest w hv hd hl hn hm (by omega) (by omega) (by omega) hsz hns hbd (bindFF_of hp0 hsn hnm hlm hlu hmu) hx hr.vals f1 hr.l2
    (fun n h => by
      obtain ⟨k, hk, h1, h2⟩ := f2 n h
      exact ⟨k, hk, h1, by rw [h2]; exact List.getElem?_eq_getElem _⟩) g0 g1 g2

theorem RowS.toOf {w : World} {v : Value} {l : List ByteArray} (h : RowS 1 w v l.length (l.map Value.string)) : RowOf Value.string w v l := by
  obtain ⟨a, cap, rfl, hl, hm, hn, hc⟩ := h
  refine ⟨a, cap, rfl, hl, hm.1, fun i hi => ?_⟩
  obtain ⟨b, off, rfl, h1⟩ := hc i (by simpa using hi)
  exact ⟨b, off, rfl, by simpa using h1⟩

theorem box3_set {w : World} {N : Nat} {y0 y1 y2 : Value} {t : TypeId} (h : w.heap[N]? = some (.cells #[y0, y1, y2] t (0, 0))) (x0 x1 x2 : Value) :
    (((w.setCell ⟨N, 0, none⟩ x0).setCell ⟨N, 1, none⟩ x1).setCell ⟨N, 2, none⟩ x2).heap[N]? = some (.cells #[x0, x1, x2] t (0, 0)) := by
  simp [World.setCell, Array.getElem?_modify, h]

theorem lastPlain {ps : List Par} {n m : Nat} (hm : n = m + 1) (hmp : m < ps.length) : (ps[m].k == 0) = true ↔ ∃ j, ∃ hj : j < ps.length, n = j + 1 ∧ ps[j].k = 0 := by
  rw [beq_iff_eq]
  refine ⟨fun h => ⟨m, hmp, hm, h⟩, ?_⟩
  rintro ⟨j, hj, e, h⟩
  have : j = m := by omega
  subst this
  exact h

theorem own_set3 {W : World} {base e z n N : Nat} {v : Value} {xs : List Value} (h : W.ownsRow base e z v n xs) (hne : v.ownBlock ≠ some N) (x0 x1 x2 : Value) :
    (((W.setCell ⟨N, 0, none⟩ x0).setCell ⟨N, 1, none⟩ x1).setCell ⟨N, 2, none⟩ x2).ownsRow base e z v n xs :=
  ((h.kept (grown_setC _ N 0 x0) (.inr hne)).kept (grown_setC _ N 1 x1) (.inr hne)).kept (grown_setC _ N 2 x2) (.inr hne)

theorem own_str {W : World} {base g c n : Nat} {e : TypeId} {l : List ByteArray} (h : W.ownsRow base e 1 (.slice (some ⟨g, 0, none⟩) n c) n (l.map Value.string)) (hl : l.length = n) {j : Nat} (hj : j < l.length) : W.cell? ⟨g, j, none⟩ = some (.string l[j]) := by
  subst hl
  obtain ⟨a, cap, he, _, _, hc⟩ := names_row h
  simp only [Value.slice.injEq, true_and] at he
  obtain ⟨rfl, rfl⟩ := he
  obtain ⟨b, off, e, h1⟩ := hc j hj
  simp only [Option.some.injEq, Addr.mk.injEq, and_true] at e
  obtain ⟨rfl, rfl⟩ := e
  simpa using h1

/-- Cells that stand all along, and cells that stand until number i is carried out. -/
structure SG (i : Nat) (A B : List (Addr × Value)) (L : Array Bool) (W : World) : Prop where
  hd : Cs A W
  el : L.getD i false = false → Cs B W
theorem SG.put {i j : Nat} {A B : List (Addr × Value)} {L : Array Bool} {W : World} (h : j ≠ i) : SG i A B (L.setIfInBounds j true) W ↔ SG i A B L W :=
  ⟨fun s => ⟨s.hd, fun e => s.el (by rw [getD_put_ne L h]; exact e)⟩, fun s => ⟨s.hd, fun e => s.el (by rw [getD_put_ne L h] at e; exact e)⟩⟩

theorem RowS.cast {z : Nat} {w : World} {v : Value} {n n' : Nat} {cs cs' : List Value} (h : RowS z w v n cs) (hn : n = n') (hc : cs = cs') : RowS z w v n' cs' := by subst hn; subst hc; exact h
theorem ConcatN_any (names : List ByteArray) (nm : ByteArray) (na : Option Addr) (nc : Nat) (W : World) (p13 p14 : Nat) (hn : RowS 1 W (.slice na names.length nc) names.length (names.map Value.string)) (h : names.length + 1 ≤ 1000)
    (b13 : W.heap[p13]? = some (.cells #[.string nm] 9 (0, 0))) (b14 : W.heap[p14]? = some (.cells #[.slice na names.length nc, .slice (some ⟨p13, 0, none⟩) 1 1] 37 (0, 0))) :
    Calls Try.prog 22 #[.slice (some ⟨p14, 0, none⟩) 2 2] W fun e w' => ∃ v', e = .returned v' ∧ w'.ownsRow W.heap.size 9 1 v' (names.length + 1) ((names ++ [nm]).map Value.string) ∧ Below W.heap.size W w' := by
  refine (ConcatS_any _ [.slice na names.length nc, .slice (some ⟨p13, 0, none⟩) 1 1] [(names.length, names.map Value.string), (1, [.string nm])] W ⟨some ⟨p14, 0, none⟩, 2, rfl, by simp, by omega, fun i hi => ⟨p14, 0, rfl, ?_⟩⟩ rfl ?_ (by simp [totalB]; omega) ?_).mono ?_
  · rw [Nat.zero_add, box_cell b14 i]
    simp
  · intro i hi
    match i, hi with
    | 0, _ => exact hn
    | 1, _ =>
      refine ⟨some ⟨p13, 0, none⟩, 1, rfl, Nat.le_refl _, ⟨by omega, fun h => by cases h⟩, rfl, fun j hj => ⟨p13, 0, rfl, ?_⟩⟩
      have h0 : j = 0 := by
        have h1 : j < 1 := hj
        omega
      subst h0
      rw [Nat.zero_add, box_cell b13 0]
      rfl
  · intro x hx
    simp only [List.mem_cons, List.not_mem_nil, or_false] at hx
    rcases hx with rfl | rfl
    · simp [Value.oneCell']
    · simp [Value.oneCell']
  · rintro e w' ⟨v', rfl, ho, hb⟩
    exact ⟨v', rfl, own_cast ho (by simp [totalB]) (by simp), hb⟩
theorem ConcatX_any (named : List Val) (x : Val) (ma : Option Addr) (mc : Nat) (ua : Option Addr) (uc : Nat) (W : World) (p23 : Nat) (hm : ValsAt W (.slice ma named.length mc) named) (hu : RowS 7 W (.slice ua 1 uc) 1 ([x].flatMap valC)) (h : named.length + 1 ≤ 1000)
    (b23 : W.heap[p23]? = some (.cells #[.slice ma named.length mc, .slice ua 1 uc] 36 (0, 0))) :
    Calls Try.prog 23 #[.slice (some ⟨p23, 0, none⟩) 2 2] W fun e w' => ∃ v', e = .returned v' ∧ w'.ownsRow W.heap.size 58 7 v' (named.length + 1) ((named ++ [x]).flatMap valC) ∧ Below W.heap.size W w' := by
  refine (Concat2_any _ _ named [x] W hm hu (by simpa using h) p23 b23).mono ?_
  rintro e w' ⟨v', rfl, ho, hb⟩
  exact ⟨v', rfl, own_cast ho (by simp) rfl, hb⟩

/-- Go's rest, turned into a place. -/
theorem turn_ok (i : Int) {n : Nat} (h : 0 < n) (hn : n ≤ 1000) : ∃ i' : Nat, i' < n ∧ ((wrap64 (Int.tmod i n + n)).tmod n) = (i' : Int) := by
  have h1 := Int.tmod_lt_of_pos i (show (0 : Int) < n by omega)
  have h2 := Int.lt_tmod_of_pos i (show (0 : Int) < n by omega)
  have h3 : (0 : Int) ≤ Int.tmod i n + n := by omega
  have h4 := Int.emod_nonneg (Int.tmod i n + n) (show (n : Int) ≠ 0 by omega)
  have h5 := Int.emod_lt_of_pos (Int.tmod i n + n) (show (0 : Int) < n by omega)
  rw [show wrap64 (Int.tmod i n + n) = Int.tmod i n + n by unfold wrap64; omega, Int.tmod_eq_emod_of_nonneg h3]
  exact ⟨((Int.tmod i n + n) % n).toNat, by omega, by omega⟩

set_option maxRecDepth 100000 in
set_option maxHeartbeats 8000000 in
theorem ByName_any (pv dv lv nv mv : Value) (i k : Int) (ps : List Par) (ds l : List Val) (names : List ByteArray) (named : List Val) (w : World)
    (hv : ParamsAt w pv ps) (hd : ValsAt w dv ds) (hl : ValsAt w lv l) (hn1 : RowS 1 w nv names.length (names.map Value.string)) (hm : ValsAt w mv named)
    (gd : ∀ x ∈ ds, GoodVal w x) (gl : ∀ x ∈ l, GoodVal w x) (gm : ∀ x ∈ named, GoodVal w x)
    (hll : l.length ≤ 140737488355328) (hnl : names.length ≤ 140737488355328) (hml : named.length ≤ 140737488355328) (hsz : ∀ p ∈ ps, p.s.size ≤ 140737488355328) (hns : ∀ s ∈ names, s.size ≤ 140737488355328) :
    Calls Try.prog 8 #[pv, dv, .agg #[lv, nv, mv], .int .i64 i, .int .i64 k] w fun e w' => e = .returned (.bool true) ∧ Below w.heap.size w w' := by
  have hn := hn1.toOf
  have H1 := Lib.hid (fun W (h : Below w.heap.size w W) => Bind_any pv dv lv nv mv ⟨#[102]⟩ ps ds l names named W (hv.below h) (hd.below h) (hl.below h) (hn.below h) (hm.below h) hll hnl hml (by decide) hsz hns)
  obtain ⟨pa, pc, rfl⟩ := hv.len
  obtain ⟨da, dc, rfl⟩ := hd.isSlice
  obtain ⟨la, lc, rfl⟩ := hl.isSlice
  obtain ⟨ma, mc, rfl⟩ := hm.isSlice
  obtain ⟨na, nc, rfl⟩ := hn1.isSlice
  have HV := Lib.hid hv
  have HD := Lib.hid hd
  have HL := Lib.hid hl
  have HN := Lib.hid hn
  have HN1 := Lib.hid hn1
  have HM := Lib.hid hm
  have GD := Lib.hid gd
  have GL := Lib.hid gl
  have GM := Lib.hid gm
  have HSZ := Lib.hid hsz
  have HNS := Lib.hid hns
  clear hv hd hl hn hn1 hm gd gl gm hsz hns
  have hb1 := ext_alloc w (.cells #[.slice la l.length lc, .slice na names.length nc, .slice ma named.length mc] 39)
  have hx1 := heap_new w (.cells #[.slice la l.length lc, .slice na names.length nc, .slice ma named.length mc] 39)
  go_enter Try.func8, Try.ntmps8
  go_upto_region 1 with fail
  generalize (w.alloc (.cells #[.slice la l.length lc, .slice na names.length nc, .slice ma named.length mc] 39)) = w1 at *
  have c0 := box_cell hx1 0
  have c1 := box_cell hx1 1
  have c2 := box_cell hx1 2
  simp only [List.getElem?_toArray, List.getElem?_cons_zero, List.getElem?_cons_succ] at c0 c1 c2
  go_wp2_with fail
  refine (H1.out w1 hb1).mono ?_
  rintro e w2 hpost
  have HP := Lib.hid hpost
  clear hpost H1 c0 c1 c2
  have hb12 := HP.out.1
  obtain ⟨b0, b1, b2, b3, t, c, fi, vals, rest, nms, nmd, rfl, hff, hba, hres⟩ := HP.out.form
  obtain ⟨y0, n0, k0, y1, n1, k1, y2, n2, k2, y3, n3, k3, rfl, rfl, rfl, rfl⟩ := hba.slices
  have HFF := Lib.hid hff
  have HBA := Lib.hid hba
  have HRES := Lib.hid hres
  clear hff hba hres HP
  simp only [faultV]
  replace hx1 := (hb12.block _ (box_lt hx1)).trans hx1
  have hb2 := ext_trans hb1 hb12
  clear hb1 hb12
  have hbA := ext_alloc w2 (.cells #[.slice y0 n0 k0, .slice y1 n1 k1, .slice y2 n2 k2, .slice y3 n3 k3] 41)
  have hz1 := heap_new w2 (.cells #[.slice y0 n0 k0, .slice y1 n1 k1, .slice y2 n2 k2, .slice y3 n3 k3] 41)
  have hbB := ext_alloc (w2.alloc (.cells #[.slice y0 n0 k0, .slice y1 n1 k1, .slice y2 n2 k2, .slice y3 n3 k3] 41)) (.cells #[.int .i64 c, .int .i64 fi] 27)
  have hw1 := heap_new (w2.alloc (.cells #[.slice y0 n0 k0, .slice y1 n1 k1, .slice y2 n2 k2, .slice y3 n3 k3] 41)) (.cells #[.int .i64 c, .int .i64 fi] 27)
  rw [show (w2.alloc (.cells #[.slice y0 n0 k0, .slice y1 n1 k1, .slice y2 n2 k2, .slice y3 n3 k3] 41)).heap.size = w2.heap.size + 1 by simp] at hw1
  replace hz1 := (hbB.block _ (box_lt hz1)).trans hz1
  have hb23 := ext_trans hbA hbB
  clear hbA hbB
  go_upto_region 2 with fail
  generalize ((w2.alloc (.cells #[.slice y0 n0 k0, .slice y1 n1 k1, .slice y2 n2 k2, .slice y3 n3 k3] 41)).alloc (.cells #[.int .i64 c, .int .i64 fi] 27)) = w3 at *
  replace hx1 := (hb23.block _ (box_lt hx1)).trans hx1
  have hb3 := ext_trans hb2 hb23
  have HBA3 := Lib.hid (HBA.out.below hb23)
  clear hb2 hb23 HBA
  generalize w2.heap.size + 1 = NF at *
  generalize w2.heap.size = NB at *
  obtain ⟨p0, p1, -, -⟩ := box2 hw1
  by_cases hc : c = 0
  · rcases HRES.out with hh | ⟨-, hh⟩
    · exact absurd hc hh.1
    rcases hh with ⟨m, hbi, rfl, -, -, -, -⟩ | ⟨hbi, rfl⟩
    · as_aux_lemma =>
        have HTN := msgT_ne ⟨#[102]⟩ m
        generalize msgT ⟨#[102]⟩ m = t2 at *
        clear hbi HRES HFF
        subst hc
        go_wp2
        go_ret
        exact ⟨rfl, hb3⟩
    · have hff0 : (bindFF ps ds.length l names.length named).1 = 0 := by rw [HFF.out]; exact hc
      subst hc
      clear HRES
      obtain ⟨hp0, hsn, hnm, hlm, hlu, hmu, -⟩ := bindFF_zero hff0
      obtain ⟨hp12, hbad, -⟩ := parF_zero hp0
      obtain ⟨hvl, hnl2⟩ := bindF_len hbi
      obtain ⟨_, _, e0⟩ := HBA3.out.vals.isSlice
      simp only [Value.slice.injEq] at e0
      obtain ⟨rfl, rfl, rfl⟩ := e0
      have hgood := good_of ps hbad
      have hgv := bindF_all (GoodVal.unb w) hbi GL.out GD.out (fun x hx => GM.out x.2 (List.of_mem_zip hx).2)
      have HGV := Lib.hid hgv
      have HBI := Lib.hid hbi
      have HP0 := Lib.hid hp0
      have HSN := Lib.hid hsn
      have HNM := Lib.hid hnm
      have HLU := Lib.hid hlu
      have HMU := Lib.hid hmu
      have HGOOD := Lib.hid hgood
      have HVL := Lib.hid hvl
      have HNL2 := Lib.hid hnl2
      have q1 : (((vals.length : Nat) : Int) != ((ps.length : Nat) : Int)) = false := by simp only at hvl; rw [hvl]; simp
      have q2 : (((names.length : Nat) : Int) != ((named.length : Nat) : Int)) = false := by rw [hnm]; simp
      clear hff0 HFF hp0 hsn hnm hlu hmu hbad hvl hnl2 hgood hgv hbi
      have e0 := box_cell hz1 0
      have c0 := box_cell hx1 0
      have c1 := box_cell hx1 1
      have c2 := box_cell hx1 2
      simp only [List.getElem?_toArray, List.getElem?_cons_zero, List.getElem?_cons_succ] at e0 c0 c1 c2
      go_upto_region 7 with fail
      clear q1 q2 e0 p0 p1 hw1
      go_cut [67] (fun s67 wx => ∃ b : Bool, s67 = .bool b ∧ Hid (b = true ↔ ∃ m, ∃ hm : m < ps.length, l.length = m + 1 ∧ ps[m].k = 0) ∧ w3 = wx)
      case first => as_aux_lemma =>
        by_cases h0 : 0 < l.length
        · have i1 : ((l.length : Int) > 0) := by omega
          by_cases h1 : l.length ≤ ps.length
          · have i2 : ((l.length : Int) ≤ (ps.length : Int)) := by omega
            obtain ⟨m, hm⟩ : ∃ m, l.length = m + 1 := ⟨l.length - 1, by omega⟩
            have hmp : m < ps.length := by omega
            have i3 : ((l.length : Int) - 1) = (m : Int) := by omega
            have HMM := Lib.hid hm
            obtain ⟨a', c', he, _, _, hc⟩ := HV.out.below hb3
            simp only [Value.slice.injEq, true_and] at he
            obtain ⟨rfl, rfl⟩ := he
            obtain ⟨b, off, da', dc', rfl, z0, -, -⟩ := hc m hmp
            have HIF := Lib.hid (lastPlain hm hmp)
            clear hc hm
            go_wp2
            go_meet
            exact ⟨_, rfl, HIF, rfl⟩
          · have i2 : ¬ ((l.length : Int) ≤ (ps.length : Int)) := by omega
            go_wp2
            go_meet
            refine ⟨_, rfl, ?_, rfl⟩
            unfold Hid
            exact ⟨fun h => Bool.noConfusion h, fun ⟨m, hm, h, _⟩ => by omega⟩
        · have i1 : ¬ ((l.length : Int) > 0) := by omega
          go_wp2
          go_meet
          refine ⟨_, rfl, ?_, rfl⟩
          unfold Hid
          exact ⟨fun h => Bool.noConfusion h, fun ⟨m, hm, h, _⟩ => by omega⟩
      case rest =>
        obtain ⟨kb, rfl, HKB, rfl⟩ := hcut
        go_upto_if 67 with fail
        go_cut [] (fun wx => Below w3.heap.size w3 wx)
        case first =>
          cases kb with
          | false => as_aux_lemma =>
            go_wp2
            go_meet
            exact Below.refl _ _
          | true => as_aux_lemma =>
            obtain ⟨m, hmp, hml2, hk0⟩ := HKB.out.1 rfl
            clear HKB
            have hlm0 : m < l.length := by omega
            have i3 : ((l.length : Int) - 1) = (m : Int) := by omega
            have i4 : IntKind.i64.wrap (m : Int) = (m : Int) := by rw [IntKind.wrap_i64]; omega
            have i5 : IntKind.i64.wrap ((l.length : Int) - 1) = (m : Int) := by rw [i3, i4]
            obtain ⟨u1, hu1, hs1, -, -⟩ := RowS.sub (HL.out.below hb3) Try.underlying36 sizeVal (i := 0) (j := m) (Nat.zero_le _) (by omega)
            replace hs1 := hs1 rfl
            obtain ⟨u2, hu2, -, hs2, -⟩ := RowS.sub (HL.out.below hb3) Try.underlying36 sizeVal (i := m) (j := l.length) (by omega) (Nat.le_refl _)
            replace hs2 := hs2 rfl
            replace hu1 : RowS 7 w3 u1 m ((l.take m).flatMap valC) := hu1.cast (by omega) (by rw [Nat.zero_mul, List.drop_zero, Nat.sub_zero, flat_take])
            replace hu2 : RowS 7 w3 u2 1 ([l[m]].flatMap valC) := hu2.cast (by omega) (by
              rw [flat_drop, flat_take, List.drop_eq_getElem_cons hlm0, List.drop_of_length_le (by omega), List.take_of_length_le (by simp; omega)])
            obtain ⟨u1a, u1c, rfl⟩ := hu1.isSlice
            obtain ⟨u2a, u2c, rfl⟩ := hu2.isSlice
            obtain ⟨a', c', he, _, _, hc⟩ := HV.out.below hb3
            simp only [Value.slice.injEq, true_and] at he
            obtain ⟨rfl, rfl⟩ := he
            obtain ⟨pb, po, da', dc', rfl, -, z1, -⟩ := hc m hmp
            clear hc
            have HX2 := Lib.hid (bind_byname HGOOD.out (u := unbV) (isU := isUV) rfl HLU.out HBI.out hml2 hmp hk0)
            have hbnm := HSZ.out ps[m] (List.getElem_mem hmp)
            have HUX := Lib.hid (HLU.out l[m] (List.getElem_mem hlm0))
            have HU1 := Lib.hid hu1
            have HU2 := Lib.hid hu2
            have HPM := Lib.hid (show ps[m].s = ps[m].s from rfl)
            generalize hnm : ps[m].s = nm at *
            generalize hlx : l[m] = lx at *
            clear hnm hlx hu1 hu2 HPM hk0 hml2
            have hcs : ∀ W, Below w3.heap.size w3 W → Cs [(⟨w.heap.size, 0, none⟩, .slice la l.length lc), (⟨w.heap.size, 1, none⟩, .slice na names.length nc), (⟨w.heap.size, 2, none⟩, .slice ma named.length mc), (⟨pb, po + m * 3 + 1, none⟩, .string nm)] W := by
              intro W hW
              have hx := (hW.block _ (box_lt hx1)).trans hx1
              have c0 := box_cell hx 0
              have c1 := box_cell hx 1
              have c2 := box_cell hx 2
              simp only [List.getElem?_toArray, List.getElem?_cons_zero, List.getElem?_cons_succ] at c0 c1 c2
              simp only [Cs, List.forall_mem_cons]
              exact ⟨c0, c1, c2, by rw [hW.cell (World.block_lt_of_cell? _ _ z1)]; exact z1, fun _ h => by cases h⟩
            have HCS := Lib.hid hcs
            have CN := Lib.hid (fun W p13 p14 (h : Below w3.heap.size w3 W) b13 b14 => ConcatN_any names nm na nc W p13 p14 (HN1.out.below (ext_trans hb3 h)) (by omega) b13 b14)
            have CV := Lib.hid (fun W p23 (h : Below w3.heap.size w3 W) b23 => ConcatX_any named lx ma mc u2a u2c W p23 (HM.out.below (ext_trans hb3 h)) (HU2.out.below h) (by have := HNM.out; omega) b23)
            clear hcs c0 c1 c2 z1
            go_upto_region 8 with fail
            go_cut [15] (fun s15 wx => ∃ p26 xa xc ya yc, s15 = .pointer (some ⟨p26, 0, none⟩) ∧ wx.heap[p26]? = some (.cells #[.slice u1a m u1c, .slice xa (names.length + 1) xc, .slice ya (named.length + 1) yc] 39 (0, 0)) ∧
              RowOf Value.string wx (.slice xa (names.length + 1) xc) (names ++ [nm]) ∧ ValsAt wx (.slice ya (named.length + 1) yc) (named ++ [lx]) ∧ Below w3.heap.size w3 wx)
            case first => as_aux_lemma =>
              go_wp2
              refine wp_region_noPanic ?_
              refine wp_region_L (S := fun _ W => Cs [(⟨w.heap.size, 0, none⟩, .slice la l.length lc), (⟨w.heap.size, 1, none⟩, .slice na names.length nc), (⟨w.heap.size, 2, none⟩, .slice ma named.length mc), (⟨pb, po + m * 3 + 1, none⟩, .string nm)] W) (by kernel_rfl) ?_
              have hb0 : Below w3.heap.size w3 { w3 with drawn := w3.drawn + 1 } := (Below.refl _ _).drew
              generalize ({ w3 with drawn := w3.drawn + 1 } : World) = W0 at *
              have hS0 := HCS.out W0 hb0
              refine wpAnyL_take (T := fun _ => True) (i := 0) (v := ?vvh0) rfl (by kernel_rfl) (by kernel_rfl) (by kernel_rfl) (fun _ _ _ h => h) (fun _ _ => Iff.rfl) (fun _ _ _ _ _ => trivial) (Closed.of_B (by kernel_rfl)) (Or.inl ⟨by kernel_rfl, ?hyh0⟩) hS0 ?resth0
              case hyh0 => (intro w _; go_simp; with_reducible rfl)
              go_simp
              refine wpAnyL_take (T := fun W => Cs [(⟨w.heap.size, 0, none⟩, .slice la l.length lc), (⟨w.heap.size, 1, none⟩, .slice na names.length nc), (⟨w.heap.size, 2, none⟩, .slice ma named.length mc), (⟨pb, po + m * 3 + 1, none⟩, .string nm)] W) (i := 1) (v := ?vvh1) rfl (by kernel_rfl) (by kernel_rfl) (by kernel_rfl) (fun _ _ _ h => h) (fun _ _ => Iff.rfl) (fun _ _ _ _ h => h) (Closed.of_B (by kernel_rfl)) (Or.inl ⟨by kernel_rfl, ?hyh1⟩) hS0 ?resth1
              case hyh1 => (intro W hW; simp only [Cs, List.forall_mem_cons] at hW; obtain ⟨m0, m1, m2, m3, -⟩ := hW; go_simp; with_reducible rfl)
              go_simp
              refine wpAnyL_take (T := fun _ => True) (i := 2) (v := ?vvh2) rfl (by kernel_rfl) (by kernel_rfl) (by kernel_rfl) (fun _ _ _ h => h) (fun _ _ => Iff.rfl) (fun _ _ _ _ _ => trivial) (Closed.of_B (by kernel_rfl)) (Or.inl ⟨by kernel_rfl, ?hyh2⟩) hS0 ?resth2
              case hyh2 => (intro w _; go_simp; with_reducible rfl)
              go_simp
              refine wpAnyL_take (T := fun _ => True) (i := 3) (v := ?vvh3) rfl (by kernel_rfl) (by kernel_rfl) (by kernel_rfl) (fun _ _ _ h => h) (fun _ _ => Iff.rfl) (fun _ _ _ _ _ => trivial) (Closed.of_B (by kernel_rfl)) (Or.inl ⟨by kernel_rfl, ?hyh3⟩) hS0 ?resth3
              case hyh3 => (intro w _; go_simp; with_reducible rfl)
              go_simp
              refine wpAnyL_take (T := fun _ => True) (i := 4) (v := ?vvh4) rfl (by kernel_rfl) (by kernel_rfl) (by kernel_rfl) (fun _ _ _ h => h) (fun _ _ => Iff.rfl) (fun _ _ _ _ _ => trivial) (Closed.of_B (by kernel_rfl)) (Or.inl ⟨by kernel_rfl, ?hyh4⟩) hS0 ?resth4
              case hyh4 => (intro w _; go_simp; with_reducible rfl)
              go_simp
              refine wpAnyL_take (T := fun _ => True) (i := 5) (v := ?vvh5) rfl (by kernel_rfl) (by kernel_rfl) (by kernel_rfl) (fun _ _ _ h => h) (fun _ _ => Iff.rfl) (fun _ _ _ _ _ => trivial) (Closed.of_B (by kernel_rfl)) (Or.inl ⟨by kernel_rfl, ?hyh5⟩) hS0 ?resth5
              case hyh5 => (intro w _; go_simp; with_reducible rfl)
              go_simp
              refine wpAnyL_take (T := fun W => Cs [(⟨w.heap.size, 0, none⟩, .slice la l.length lc), (⟨w.heap.size, 1, none⟩, .slice na names.length nc), (⟨w.heap.size, 2, none⟩, .slice ma named.length mc), (⟨pb, po + m * 3 + 1, none⟩, .string nm)] W) (i := 6) (v := ?vvh6) rfl (by kernel_rfl) (by kernel_rfl) (by kernel_rfl) (fun _ _ _ h => h) (fun _ _ => Iff.rfl) (fun _ _ _ _ h => h) (Closed.of_B (by kernel_rfl)) (Or.inl ⟨by kernel_rfl, ?hyh6⟩) hS0 ?resth6
              case hyh6 => (intro W hW; simp only [Cs, List.forall_mem_cons] at hW; obtain ⟨m0, m1, m2, m3, -⟩ := hW; go_simp; with_reducible rfl)
              go_simp
              refine wpAnyL_take (T := fun _ => True) (i := 7) (v := ?vvh7) rfl (by kernel_rfl) (by kernel_rfl) (by kernel_rfl) (fun _ _ _ h => h) (fun _ _ => Iff.rfl) (fun _ _ _ _ _ => trivial) (Closed.of_B (by kernel_rfl)) (Or.inl ⟨by kernel_rfl, ?hyh7⟩) hS0 ?resth7
              case hyh7 => (intro w _; go_simp; with_reducible rfl)
              go_simp
              refine wpAnyL_take (T := fun _ => True) (i := 8) (v := ?vvh8) rfl (by kernel_rfl) (by kernel_rfl) (by kernel_rfl) (fun _ _ _ h => h) (fun _ _ => Iff.rfl) (fun _ _ _ _ _ => trivial) (Closed.of_B (by kernel_rfl)) (Or.inl ⟨by kernel_rfl, ?hyh8⟩) hS0 ?resth8
              case hyh8 => (intro w _; go_simp; with_reducible rfl)
              go_simp
              refine wpAnyL_take (T := fun _ => True) (i := 9) (v := ?vvh9) rfl (by kernel_rfl) (by kernel_rfl) (by kernel_rfl) (fun _ _ _ h => h) (fun _ _ => Iff.rfl) (fun _ _ _ _ _ => trivial) (Closed.of_B (by kernel_rfl)) (Or.inl ⟨by kernel_rfl, ?hyh9⟩) hS0 ?resth9
              case hyh9 => (intro w _; go_simp; with_reducible rfl)
              go_simp
              refine wpAnyL_take (T := fun _ => True) (i := 10) (v := ?vvh10) rfl (by kernel_rfl) (by kernel_rfl) (by kernel_rfl) (fun _ _ _ h => h) (fun _ _ => Iff.rfl) (fun _ _ _ _ _ => trivial) (Closed.of_B (by kernel_rfl)) (Or.inl ⟨by kernel_rfl, ?hyh10⟩) hS0 ?resth10
              case hyh10 => (intro w _; go_simp; with_reducible rfl)
              go_simp
              refine wpAnyL_take (T := fun _ => True) (i := 11) (v := ?vvh11) rfl (by kernel_rfl) (by kernel_rfl) (by kernel_rfl) (fun _ _ _ h => h) (fun _ _ => Iff.rfl) (fun _ _ _ _ _ => trivial) (Closed.of_B (by kernel_rfl)) (Or.inl ⟨by kernel_rfl, ?hyh11⟩) hS0 ?resth11
              case hyh11 => (intro w _; go_simp; with_reducible rfl)
              go_simp
              refine wpAnyL_take (T := fun W => Cs [(⟨w.heap.size, 0, none⟩, .slice la l.length lc), (⟨w.heap.size, 1, none⟩, .slice na names.length nc), (⟨w.heap.size, 2, none⟩, .slice ma named.length mc), (⟨pb, po + m * 3 + 1, none⟩, .string nm)] W) (i := 12) (v := ?vvh12) rfl (by kernel_rfl) (by kernel_rfl) (by kernel_rfl) (fun _ _ _ h => h) (fun _ _ => Iff.rfl) (fun _ _ _ _ h => h) (Closed.of_B (by kernel_rfl)) (Or.inl ⟨by kernel_rfl, ?hyh12⟩) hS0 ?resth12
              case hyh12 => (intro W hW; simp only [Cs, List.forall_mem_cons] at hW; obtain ⟨m0, m1, m2, m3, -⟩ := hW; go_simp; with_reducible rfl)
              go_simp
              refine wpAnyL_take (T := fun _ => True) (i := 16) (v := ?vvh16) rfl (by kernel_rfl) (by kernel_rfl) (by kernel_rfl) (fun _ _ _ h => h) (fun _ _ => Iff.rfl) (fun _ _ _ _ _ => trivial) (Closed.of_B (by kernel_rfl)) (Or.inl ⟨by kernel_rfl, ?hyh16⟩) hS0 ?resth16
              case hyh16 => (intro w _; go_simp; with_reducible rfl)
              go_simp
              refine wpAnyL_take (T := fun W => Cs [(⟨w.heap.size, 0, none⟩, .slice la l.length lc), (⟨w.heap.size, 1, none⟩, .slice na names.length nc), (⟨w.heap.size, 2, none⟩, .slice ma named.length mc), (⟨pb, po + m * 3 + 1, none⟩, .string nm)] W) (i := 17) (v := ?vvh17) rfl (by kernel_rfl) (by kernel_rfl) (by kernel_rfl) (fun _ _ _ h => h) (fun _ _ => Iff.rfl) (fun _ _ _ _ h => h) (Closed.of_B (by kernel_rfl)) (Or.inl ⟨by kernel_rfl, ?hyh17⟩) hS0 ?resth17
              case hyh17 => (intro W hW; simp only [Cs, List.forall_mem_cons] at hW; obtain ⟨m0, m1, m2, m3, -⟩ := hW; go_simp; with_reducible rfl)
              go_simp
              refine wpAnyL_take (T := fun _ => True) (i := 18) (v := ?vvh18) rfl (by kernel_rfl) (by kernel_rfl) (by kernel_rfl) (fun _ _ _ h => h) (fun _ _ => Iff.rfl) (fun _ _ _ _ _ => trivial) (Closed.of_B (by kernel_rfl)) (Or.inl ⟨by kernel_rfl, ?hyh18⟩) hS0 ?resth18
              case hyh18 => (intro w _; go_simp; with_reducible rfl)
              go_simp
              refine wpAnyL_take (T := fun W => Cs [(⟨w.heap.size, 0, none⟩, .slice la l.length lc), (⟨w.heap.size, 1, none⟩, .slice na names.length nc), (⟨w.heap.size, 2, none⟩, .slice ma named.length mc), (⟨pb, po + m * 3 + 1, none⟩, .string nm)] W) (i := 19) (v := ?vvh19) rfl (by kernel_rfl) (by kernel_rfl) (by kernel_rfl) (fun _ _ _ h => h) (fun _ _ => Iff.rfl) (fun _ _ _ _ h => h) (Closed.of_B (by kernel_rfl)) (Or.inl ⟨by kernel_rfl, ?hyh19⟩) hS0 ?resth19
              case hyh19 => (intro W hW; simp only [Cs, List.forall_mem_cons] at hW; obtain ⟨m0, m1, m2, m3, -⟩ := hW; go_simp; with_reducible rfl)
              go_simp
              refine wpAnyL_take (T := fun _ => True) (i := 20) (v := ?vvh20) rfl (by kernel_rfl) (by kernel_rfl) (by kernel_rfl) (fun _ _ _ h => h) (fun _ _ => Iff.rfl) (fun _ _ _ _ _ => trivial) (Closed.of_B (by kernel_rfl)) (Or.inl ⟨by kernel_rfl, ?hyh20⟩) hS0 ?resth20
              case hyh20 => (intro w _; go_simp; with_reducible rfl)
              go_simp
              refine wpAnyL_take (T := fun _ => True) (i := 21) (v := ?vvh21) rfl (by kernel_rfl) (by kernel_rfl) (by kernel_rfl) (fun _ _ _ h => h) (fun _ _ => Iff.rfl) (fun _ _ _ _ _ => trivial) (Closed.of_B (by kernel_rfl)) (Or.inl ⟨by kernel_rfl, ?hyh21⟩) hS0 ?resth21
              case hyh21 => (intro w _; go_simp; with_reducible rfl)
              go_simp
              refine wpAnyL_take (T := fun _ => True) (i := 22) (v := ?vvh22) rfl (by kernel_rfl) (by kernel_rfl) (by kernel_rfl) (fun _ _ _ h => h) (fun _ _ => Iff.rfl) (fun _ _ _ _ _ => trivial) (Closed.of_B (by kernel_rfl)) (Or.inl ⟨by kernel_rfl, ?hyh22⟩) hS0 ?resth22
              case hyh22 => (intro w _; go_simp; with_reducible rfl)
              go_simp
              clear hS0
              refine wpAnyL_ready (rs := [13, 23, 26]) (by kernel_rfl) (by simp) ?_
              refine AllL.cons rfl (by kernel_rfl) (fun K hK => ?_) (AllL.cons rfl (by kernel_rfl) (fun K hK => ?_) (AllL.cons rfl (by kernel_rfl) (fun K hK => ?_) AllL.nil))
              · go_simp
                have hs := ext_alloc W0 (.cells #[.string nm] 9)
                have b13 := heap_new W0 (.cells #[.string nm] 9)
                refine hK _ _ ⟨HCS.out _ (ext_trans hb0 hs), ?_⟩
                clear hK K
                have hb1 := ext_trans hb0 hs
                generalize W0.alloc (.cells #[.string nm] 9) = W1 at *
                have hlop13 := hb0.size
                clear hs hb0
                generalize W0.heap.size = p13 at *
                refine wpAnyL_ready (rs := [14, 23, 26]) (by kernel_rfl) (by simp) ?_
                refine AllL.cons rfl (by kernel_rfl) (fun K hK => ?_) (AllL.cons rfl (by kernel_rfl) (fun K hK => ?_) (AllL.cons rfl (by kernel_rfl) (fun K hK => ?_) AllL.nil))
                · go_simp
                  have hs := ext_alloc W1 (.cells #[.slice na names.length nc, .slice (some ⟨p13, 0, none⟩) 1 1] 37)
                  have b14 := heap_new W1 (.cells #[.slice na names.length nc, .slice (some ⟨p13, 0, none⟩) 1 1] 37)
                  refine hK _ _ ⟨HCS.out _ (ext_trans hb1 hs), ?_⟩
                  clear hK K
                  replace b13 := (hs.block _ (box_lt b13)).trans b13
                  have hb2 := ext_trans hb1 hs
                  generalize W1.alloc (.cells #[.slice na names.length nc, .slice (some ⟨p13, 0, none⟩) 1 1] 37) = W2 at *
                  have hlop14 := hb1.size
                  clear hs hb1
                  generalize W1.heap.size = p14 at *
                  refine wpAnyL_ready (rs := [15, 23, 26]) (by kernel_rfl) (by simp) ?_
                  refine AllL.cons rfl (by kernel_rfl) (fun K hK => ?_) (AllL.cons rfl (by kernel_rfl) (fun K hK => ?_) (AllL.cons rfl (by kernel_rfl) (fun K hK => ?_) AllL.nil))
                  · go_simp
                    refine (CN.out W2 p13 p14 hb2 b13 b14).mono ?_
                    rintro e W3 ⟨x15, rfl, o15, hs⟩
                    obtain ⟨x15a, x15c, rfl⟩ := own_isSlice o15
                    refine hK _ _ ⟨HCS.out _ (ext_trans hb2 hs), ?_⟩
                    clear hK K
                    replace b13 := (hs.block _ (box_lt b13)).trans b13
                    replace b14 := (hs.block _ (box_lt b14)).trans b14
                    have hb3 := ext_trans hb2 hs
                    have hlox15 := hb2.size
                    clear hs hb2
                    generalize W2.heap.size = Bx15 at *
                    refine wpAnyL_ready (rs := [23, 26]) (by kernel_rfl) (by simp) ?_
                    refine AllL.cons rfl (by kernel_rfl) (fun K hK => ?_) (AllL.cons rfl (by kernel_rfl) (fun K hK => ?_) AllL.nil)
                    · go_simp
                      have hs := ext_alloc W3 (.cells #[.slice ma named.length mc, .slice u2a 1 u2c] 36)
                      have b23 := heap_new W3 (.cells #[.slice ma named.length mc, .slice u2a 1 u2c] 36)
                      refine hK _ _ ⟨HCS.out _ (ext_trans hb3 hs), ?_⟩
                      clear hK K
                      replace b13 := (hs.block _ (box_lt b13)).trans b13
                      replace b14 := (hs.block _ (box_lt b14)).trans b14
                      replace o15 := own_below o15 hs
                      have hb4 := ext_trans hb3 hs
                      generalize W3.alloc (.cells #[.slice ma named.length mc, .slice u2a 1 u2c] 36) = W4 at *
                      have hlop23 := hb3.size
                      clear hs hb3
                      generalize W3.heap.size = p23 at *
                      refine wpAnyL_ready (rs := [24, 26]) (by kernel_rfl) (by simp) ?_
                      refine AllL.cons rfl (by kernel_rfl) (fun K hK => ?_) (AllL.cons rfl (by kernel_rfl) (fun K hK => ?_) AllL.nil)
                      · go_simp
                        refine (CV.out W4 p23 hb4 b23).mono ?_
                        rintro e W5 ⟨x24, rfl, o24, hs⟩
                        obtain ⟨x24a, x24c, rfl⟩ := own_isSlice o24
                        refine hK _ _ ⟨HCS.out _ (ext_trans hb4 hs), ?_⟩
                        clear hK K
                        replace b13 := (hs.block _ (box_lt b13)).trans b13
                        replace b14 := (hs.block _ (box_lt b14)).trans b14
                        replace b23 := (hs.block _ (box_lt b23)).trans b23
                        replace o15 := own_below o15 hs
                        have hb5 := ext_trans hb4 hs
                        have hlox24 := hb4.size
                        clear hs hb4
                        generalize W4.heap.size = Bx24 at *
                        refine wpAnyL_take (T := fun _ => True) (i := 25) (v := ?vvh1x25) rfl (by kernel_rfl) (by kernel_rfl) (by kernel_rfl) (fun _ _ _ h => h) (fun _ _ => Iff.rfl) (fun _ _ _ _ _ => trivial) (Closed.of_B (by kernel_rfl)) (Or.inl ⟨by kernel_rfl, ?hyh1x25⟩) (HCS.out _ hb5) ?resth1x25
                        case hyh1x25 => (intro w _; go_simp; with_reducible rfl)
                        go_simp
                        refine wpAnyL_ready (rs := [26]) (by kernel_rfl) (by simp) ?_
                        refine AllL.cons rfl (by kernel_rfl) (fun K hK => ?_) AllL.nil
                        go_simp
                        have hs := ext_alloc W5 (.cells #[.slice none 0 0, .slice none 0 0, .slice none 0 0] 39)
                        have b26 := heap_new W5 (.cells #[.slice none 0 0, .slice none 0 0, .slice none 0 0] 39)
                        refine hK _ _ ⟨HCS.out _ (ext_trans hb5 hs), ?_⟩
                        clear hK K
                        replace b13 := (hs.block _ (box_lt b13)).trans b13
                        replace b14 := (hs.block _ (box_lt b14)).trans b14
                        replace b23 := (hs.block _ (box_lt b23)).trans b23
                        replace o15 := own_below o15 hs
                        replace o24 := own_below o24 hs
                        have hb6 := ext_trans hb5 hs
                        generalize W5.alloc (.cells #[.slice none 0 0, .slice none 0 0, .slice none 0 0] 39) = W6 at *
                        have hlop26 := hb5.size
                        clear hs hb5
                        generalize W5.heap.size = p26 at *
                        as_aux_lemma =>
                          refine wpAnyL_ready (rs := [27]) (by kernel_rfl) (by simp) ?_
                          refine AllL.cons rfl (by kernel_rfl) (fun K hK => ?_) AllL.nil
                          have d0 := box_frozen b26 0
                          have d1 := box_frozen b26 1
                          have d2 := box_frozen b26 2
                          have e0 := box_cell b26 0
                          have e1 := box_cell b26 1
                          have e2 := box_cell b26 2
                          simp only [List.getElem?_toArray, List.getElem?_cons_zero, List.getElem?_cons_succ] at e0 e1 e2
                          go_simp
                          have hbf := ((hb6.setCell hlop26 (.slice u1a m u1c) (p := ⟨p26, 0, none⟩)).setCell hlop26 (.slice x15a (names.length + 1) x15c) (p := ⟨p26, 1, none⟩)).setCell hlop26 (.slice x24a (named.length + 1) x24c) (p := ⟨p26, 2, none⟩)
                          refine hK _ _ ⟨HCS.out _ hbf, ?_⟩
                          clear hK K
                          refine wpAnyL_done (by kernel_rfl) ?_ _
                          refine NoPanic.normal ?_
                          go_wp2
                          go_meet
                          exact ⟨p26, _, _, _, _, rfl, box3_set b26 _ _ _, names_row (own_cast (own_set3 o15 (own_box o15 b26 (by decide)) _ _ _) (by simp) rfl), RowS.of_own (own_cast (own_set3 o24 (own_box o24 b26 (by decide)) _ _ _) (by simp) rfl), hbf⟩
                      · go_simp
                        have hs := ext_alloc W4 (.cells #[.slice none 0 0, .slice none 0 0, .slice none 0 0] 39)
                        have b26 := heap_new W4 (.cells #[.slice none 0 0, .slice none 0 0, .slice none 0 0] 39)
                        refine hK _ _ ⟨HCS.out _ (ext_trans hb4 hs), ?_⟩
                        clear hK K
                        replace b13 := (hs.block _ (box_lt b13)).trans b13
                        replace b14 := (hs.block _ (box_lt b14)).trans b14
                        replace b23 := (hs.block _ (box_lt b23)).trans b23
                        replace o15 := own_below o15 hs
                        have hb5 := ext_trans hb4 hs
                        generalize W4.alloc (.cells #[.slice none 0 0, .slice none 0 0, .slice none 0 0] 39) = W5 at *
                        have hlop26 := hb4.size
                        clear hs hb4
                        generalize W4.heap.size = p26 at *
                        refine wpAnyL_ready (rs := [24]) (by kernel_rfl) (by simp) ?_
                        refine AllL.cons rfl (by kernel_rfl) (fun K hK => ?_) AllL.nil
                        go_simp
                        refine (CV.out W5 p23 hb5 b23).mono ?_
                        rintro e W6 ⟨x24, rfl, o24, hs⟩
                        obtain ⟨x24a, x24c, rfl⟩ := own_isSlice o24
                        refine hK _ _ ⟨HCS.out _ (ext_trans hb5 hs), ?_⟩
                        clear hK K
                        replace b13 := (hs.block _ (box_lt b13)).trans b13
                        replace b14 := (hs.block _ (box_lt b14)).trans b14
                        replace b23 := (hs.block _ (box_lt b23)).trans b23
                        replace b26 := (hs.block _ (box_lt b26)).trans b26
                        replace o15 := own_below o15 hs
                        have hb6 := ext_trans hb5 hs
                        have hlox24 := hb5.size
                        clear hs hb5
                        generalize W5.heap.size = Bx24 at *
                        refine wpAnyL_take (T := fun _ => True) (i := 25) (v := ?vvh2x25) rfl (by kernel_rfl) (by kernel_rfl) (by kernel_rfl) (fun _ _ _ h => h) (fun _ _ => Iff.rfl) (fun _ _ _ _ _ => trivial) (Closed.of_B (by kernel_rfl)) (Or.inl ⟨by kernel_rfl, ?hyh2x25⟩) (HCS.out _ hb6) ?resth2x25
                        case hyh2x25 => (intro w _; go_simp; with_reducible rfl)
                        go_simp
                        as_aux_lemma =>
                          refine wpAnyL_ready (rs := [27]) (by kernel_rfl) (by simp) ?_
                          refine AllL.cons rfl (by kernel_rfl) (fun K hK => ?_) AllL.nil
                          have d0 := box_frozen b26 0
                          have d1 := box_frozen b26 1
                          have d2 := box_frozen b26 2
                          have e0 := box_cell b26 0
                          have e1 := box_cell b26 1
                          have e2 := box_cell b26 2
                          simp only [List.getElem?_toArray, List.getElem?_cons_zero, List.getElem?_cons_succ] at e0 e1 e2
                          go_simp
                          have hbf := ((hb6.setCell hlop26 (.slice u1a m u1c) (p := ⟨p26, 0, none⟩)).setCell hlop26 (.slice x15a (names.length + 1) x15c) (p := ⟨p26, 1, none⟩)).setCell hlop26 (.slice x24a (named.length + 1) x24c) (p := ⟨p26, 2, none⟩)
                          refine hK _ _ ⟨HCS.out _ hbf, ?_⟩
                          clear hK K
                          refine wpAnyL_done (by kernel_rfl) ?_ _
                          refine NoPanic.normal ?_
                          go_wp2
                          go_meet
                          exact ⟨p26, _, _, _, _, rfl, box3_set b26 _ _ _, names_row (own_cast (own_set3 o15 (own_box o15 b26 (by decide)) _ _ _) (by simp) rfl), RowS.of_own (own_cast (own_set3 o24 (own_box o24 b26 (by decide)) _ _ _) (by simp) rfl), hbf⟩
                    · go_simp
                      have hs := ext_alloc W3 (.cells #[.slice none 0 0, .slice none 0 0, .slice none 0 0] 39)
                      have b26 := heap_new W3 (.cells #[.slice none 0 0, .slice none 0 0, .slice none 0 0] 39)
                      refine hK _ _ ⟨HCS.out _ (ext_trans hb3 hs), ?_⟩
                      clear hK K
                      replace b13 := (hs.block _ (box_lt b13)).trans b13
                      replace b14 := (hs.block _ (box_lt b14)).trans b14
                      replace o15 := own_below o15 hs
                      have hb4 := ext_trans hb3 hs
                      generalize W3.alloc (.cells #[.slice none 0 0, .slice none 0 0, .slice none 0 0] 39) = W4 at *
                      have hlop26 := hb3.size
                      clear hs hb3
                      generalize W3.heap.size = p26 at *
                      refine wpAnyL_ready (rs := [23]) (by kernel_rfl) (by simp) ?_
                      refine AllL.cons rfl (by kernel_rfl) (fun K hK => ?_) AllL.nil
                      go_simp
                      have hs := ext_alloc W4 (.cells #[.slice ma named.length mc, .slice u2a 1 u2c] 36)
                      have b23 := heap_new W4 (.cells #[.slice ma named.length mc, .slice u2a 1 u2c] 36)
                      refine hK _ _ ⟨HCS.out _ (ext_trans hb4 hs), ?_⟩
                      clear hK K
                      replace b13 := (hs.block _ (box_lt b13)).trans b13
                      replace b14 := (hs.block _ (box_lt b14)).trans b14
                      replace b26 := (hs.block _ (box_lt b26)).trans b26
                      replace o15 := own_below o15 hs
                      have hb5 := ext_trans hb4 hs
                      generalize W4.alloc (.cells #[.slice ma named.length mc, .slice u2a 1 u2c] 36) = W5 at *
                      have hlop23 := hb4.size
                      clear hs hb4
                      generalize W4.heap.size = p23 at *
                      refine wpAnyL_ready (rs := [24]) (by kernel_rfl) (by simp) ?_
                      refine AllL.cons rfl (by kernel_rfl) (fun K hK => ?_) AllL.nil
                      go_simp
                      refine (CV.out W5 p23 hb5 b23).mono ?_
                      rintro e W6 ⟨x24, rfl, o24, hs⟩
                      obtain ⟨x24a, x24c, rfl⟩ := own_isSlice o24
                      refine hK _ _ ⟨HCS.out _ (ext_trans hb5 hs), ?_⟩
                      clear hK K
                      replace b13 := (hs.block _ (box_lt b13)).trans b13
                      replace b14 := (hs.block _ (box_lt b14)).trans b14
                      replace b26 := (hs.block _ (box_lt b26)).trans b26
                      replace b23 := (hs.block _ (box_lt b23)).trans b23
                      replace o15 := own_below o15 hs
                      have hb6 := ext_trans hb5 hs
                      have hlox24 := hb5.size
                      clear hs hb5
                      generalize W5.heap.size = Bx24 at *
                      refine wpAnyL_take (T := fun _ => True) (i := 25) (v := ?vvh3x25) rfl (by kernel_rfl) (by kernel_rfl) (by kernel_rfl) (fun _ _ _ h => h) (fun _ _ => Iff.rfl) (fun _ _ _ _ _ => trivial) (Closed.of_B (by kernel_rfl)) (Or.inl ⟨by kernel_rfl, ?hyh3x25⟩) (HCS.out _ hb6) ?resth3x25
                      case hyh3x25 => (intro w _; go_simp; with_reducible rfl)
                      go_simp
                      as_aux_lemma =>
                        refine wpAnyL_ready (rs := [27]) (by kernel_rfl) (by simp) ?_
                        refine AllL.cons rfl (by kernel_rfl) (fun K hK => ?_) AllL.nil
                        have d0 := box_frozen b26 0
                        have d1 := box_frozen b26 1
                        have d2 := box_frozen b26 2
                        have e0 := box_cell b26 0
                        have e1 := box_cell b26 1
                        have e2 := box_cell b26 2
                        simp only [List.getElem?_toArray, List.getElem?_cons_zero, List.getElem?_cons_succ] at e0 e1 e2
                        go_simp
                        have hbf := ((hb6.setCell hlop26 (.slice u1a m u1c) (p := ⟨p26, 0, none⟩)).setCell hlop26 (.slice x15a (names.length + 1) x15c) (p := ⟨p26, 1, none⟩)).setCell hlop26 (.slice x24a (named.length + 1) x24c) (p := ⟨p26, 2, none⟩)
                        refine hK _ _ ⟨HCS.out _ hbf, ?_⟩
                        clear hK K
                        refine wpAnyL_done (by kernel_rfl) ?_ _
                        refine NoPanic.normal ?_
                        go_wp2
                        go_meet
                        exact ⟨p26, _, _, _, _, rfl, box3_set b26 _ _ _, names_row (own_cast (own_set3 o15 (own_box o15 b26 (by decide)) _ _ _) (by simp) rfl), RowS.of_own (own_cast (own_set3 o24 (own_box o24 b26 (by decide)) _ _ _) (by simp) rfl), hbf⟩
                  · go_simp
                    have hs := ext_alloc W2 (.cells #[.slice ma named.length mc, .slice u2a 1 u2c] 36)
                    have b23 := heap_new W2 (.cells #[.slice ma named.length mc, .slice u2a 1 u2c] 36)
                    refine hK _ _ ⟨HCS.out _ (ext_trans hb2 hs), ?_⟩
                    clear hK K
                    replace b13 := (hs.block _ (box_lt b13)).trans b13
                    replace b14 := (hs.block _ (box_lt b14)).trans b14
                    have hb3 := ext_trans hb2 hs
                    generalize W2.alloc (.cells #[.slice ma named.length mc, .slice u2a 1 u2c] 36) = W3 at *
                    have hlop23 := hb2.size
                    clear hs hb2
                    generalize W2.heap.size = p23 at *
                    refine wpAnyL_ready (rs := [15, 26]) (by kernel_rfl) (by simp) ?_
                    refine AllL.cons rfl (by kernel_rfl) (fun K hK => ?_) (AllL.cons rfl (by kernel_rfl) (fun K hK => ?_) AllL.nil)
                    · go_simp
                      refine (CN.out W3 p13 p14 hb3 b13 b14).mono ?_
                      rintro e W4 ⟨x15, rfl, o15, hs⟩
                      obtain ⟨x15a, x15c, rfl⟩ := own_isSlice o15
                      refine hK _ _ ⟨HCS.out _ (ext_trans hb3 hs), ?_⟩
                      clear hK K
                      replace b13 := (hs.block _ (box_lt b13)).trans b13
                      replace b14 := (hs.block _ (box_lt b14)).trans b14
                      replace b23 := (hs.block _ (box_lt b23)).trans b23
                      have hb4 := ext_trans hb3 hs
                      have hlox15 := hb3.size
                      clear hs hb3
                      generalize W3.heap.size = Bx15 at *
                      refine wpAnyL_ready (rs := [24, 26]) (by kernel_rfl) (by simp) ?_
                      refine AllL.cons rfl (by kernel_rfl) (fun K hK => ?_) (AllL.cons rfl (by kernel_rfl) (fun K hK => ?_) AllL.nil)
                      · go_simp
                        refine (CV.out W4 p23 hb4 b23).mono ?_
                        rintro e W5 ⟨x24, rfl, o24, hs⟩
                        obtain ⟨x24a, x24c, rfl⟩ := own_isSlice o24
                        refine hK _ _ ⟨HCS.out _ (ext_trans hb4 hs), ?_⟩
                        clear hK K
                        replace b13 := (hs.block _ (box_lt b13)).trans b13
                        replace b14 := (hs.block _ (box_lt b14)).trans b14
                        replace b23 := (hs.block _ (box_lt b23)).trans b23
                        replace o15 := own_below o15 hs
                        have hb5 := ext_trans hb4 hs
                        have hlox24 := hb4.size
                        clear hs hb4
                        generalize W4.heap.size = Bx24 at *
                        refine wpAnyL_take (T := fun _ => True) (i := 25) (v := ?vvh4x25) rfl (by kernel_rfl) (by kernel_rfl) (by kernel_rfl) (fun _ _ _ h => h) (fun _ _ => Iff.rfl) (fun _ _ _ _ _ => trivial) (Closed.of_B (by kernel_rfl)) (Or.inl ⟨by kernel_rfl, ?hyh4x25⟩) (HCS.out _ hb5) ?resth4x25
                        case hyh4x25 => (intro w _; go_simp; with_reducible rfl)
                        go_simp
                        refine wpAnyL_ready (rs := [26]) (by kernel_rfl) (by simp) ?_
                        refine AllL.cons rfl (by kernel_rfl) (fun K hK => ?_) AllL.nil
                        go_simp
                        have hs := ext_alloc W5 (.cells #[.slice none 0 0, .slice none 0 0, .slice none 0 0] 39)
                        have b26 := heap_new W5 (.cells #[.slice none 0 0, .slice none 0 0, .slice none 0 0] 39)
                        refine hK _ _ ⟨HCS.out _ (ext_trans hb5 hs), ?_⟩
                        clear hK K
                        replace b13 := (hs.block _ (box_lt b13)).trans b13
                        replace b14 := (hs.block _ (box_lt b14)).trans b14
                        replace b23 := (hs.block _ (box_lt b23)).trans b23
                        replace o15 := own_below o15 hs
                        replace o24 := own_below o24 hs
                        have hb6 := ext_trans hb5 hs
                        generalize W5.alloc (.cells #[.slice none 0 0, .slice none 0 0, .slice none 0 0] 39) = W6 at *
                        have hlop26 := hb5.size
                        clear hs hb5
                        generalize W5.heap.size = p26 at *
                        as_aux_lemma =>
                          refine wpAnyL_ready (rs := [27]) (by kernel_rfl) (by simp) ?_
                          refine AllL.cons rfl (by kernel_rfl) (fun K hK => ?_) AllL.nil
                          have d0 := box_frozen b26 0
                          have d1 := box_frozen b26 1
                          have d2 := box_frozen b26 2
                          have e0 := box_cell b26 0
                          have e1 := box_cell b26 1
                          have e2 := box_cell b26 2
                          simp only [List.getElem?_toArray, List.getElem?_cons_zero, List.getElem?_cons_succ] at e0 e1 e2
                          go_simp
                          have hbf := ((hb6.setCell hlop26 (.slice u1a m u1c) (p := ⟨p26, 0, none⟩)).setCell hlop26 (.slice x15a (names.length + 1) x15c) (p := ⟨p26, 1, none⟩)).setCell hlop26 (.slice x24a (named.length + 1) x24c) (p := ⟨p26, 2, none⟩)
                          refine hK _ _ ⟨HCS.out _ hbf, ?_⟩
                          clear hK K
                          refine wpAnyL_done (by kernel_rfl) ?_ _
                          refine NoPanic.normal ?_
                          go_wp2
                          go_meet
                          exact ⟨p26, _, _, _, _, rfl, box3_set b26 _ _ _, names_row (own_cast (own_set3 o15 (own_box o15 b26 (by decide)) _ _ _) (by simp) rfl), RowS.of_own (own_cast (own_set3 o24 (own_box o24 b26 (by decide)) _ _ _) (by simp) rfl), hbf⟩
                      · go_simp
                        have hs := ext_alloc W4 (.cells #[.slice none 0 0, .slice none 0 0, .slice none 0 0] 39)
                        have b26 := heap_new W4 (.cells #[.slice none 0 0, .slice none 0 0, .slice none 0 0] 39)
                        refine hK _ _ ⟨HCS.out _ (ext_trans hb4 hs), ?_⟩
                        clear hK K
                        replace b13 := (hs.block _ (box_lt b13)).trans b13
                        replace b14 := (hs.block _ (box_lt b14)).trans b14
                        replace b23 := (hs.block _ (box_lt b23)).trans b23
                        replace o15 := own_below o15 hs
                        have hb5 := ext_trans hb4 hs
                        generalize W4.alloc (.cells #[.slice none 0 0, .slice none 0 0, .slice none 0 0] 39) = W5 at *
                        have hlop26 := hb4.size
                        clear hs hb4
                        generalize W4.heap.size = p26 at *
                        refine wpAnyL_ready (rs := [24]) (by kernel_rfl) (by simp) ?_
                        refine AllL.cons rfl (by kernel_rfl) (fun K hK => ?_) AllL.nil
                        go_simp
                        refine (CV.out W5 p23 hb5 b23).mono ?_
                        rintro e W6 ⟨x24, rfl, o24, hs⟩
                        obtain ⟨x24a, x24c, rfl⟩ := own_isSlice o24
                        refine hK _ _ ⟨HCS.out _ (ext_trans hb5 hs), ?_⟩
                        clear hK K
                        replace b13 := (hs.block _ (box_lt b13)).trans b13
                        replace b14 := (hs.block _ (box_lt b14)).trans b14
                        replace b23 := (hs.block _ (box_lt b23)).trans b23
                        replace b26 := (hs.block _ (box_lt b26)).trans b26
                        replace o15 := own_below o15 hs
                        have hb6 := ext_trans hb5 hs
                        have hlox24 := hb5.size
                        clear hs hb5
                        generalize W5.heap.size = Bx24 at *
                        refine wpAnyL_take (T := fun _ => True) (i := 25) (v := ?vvh5x25) rfl (by kernel_rfl) (by kernel_rfl) (by kernel_rfl) (fun _ _ _ h => h) (fun _ _ => Iff.rfl) (fun _ _ _ _ _ => trivial) (Closed.of_B (by kernel_rfl)) (Or.inl ⟨by kernel_rfl, ?hyh5x25⟩) (HCS.out _ hb6) ?resth5x25
                        case hyh5x25 => (intro w _; go_simp; with_reducible rfl)
                        go_simp
                        as_aux_lemma =>
                          refine wpAnyL_ready (rs := [27]) (by kernel_rfl) (by simp) ?_
                          refine AllL.cons rfl (by kernel_rfl) (fun K hK => ?_) AllL.nil
                          have d0 := box_frozen b26 0
                          have d1 := box_frozen b26 1
                          have d2 := box_frozen b26 2
                          have e0 := box_cell b26 0
                          have e1 := box_cell b26 1
                          have e2 := box_cell b26 2
                          simp only [List.getElem?_toArray, List.getElem?_cons_zero, List.getElem?_cons_succ] at e0 e1 e2
                          go_simp
                          have hbf := ((hb6.setCell hlop26 (.slice u1a m u1c) (p := ⟨p26, 0, none⟩)).setCell hlop26 (.slice x15a (names.length + 1) x15c) (p := ⟨p26, 1, none⟩)).setCell hlop26 (.slice x24a (named.length + 1) x24c) (p := ⟨p26, 2, none⟩)
                          refine hK _ _ ⟨HCS.out _ hbf, ?_⟩
                          clear hK K
                          refine wpAnyL_done (by kernel_rfl) ?_ _
                          refine NoPanic.normal ?_
                          go_wp2
                          go_meet
                          exact ⟨p26, _, _, _, _, rfl, box3_set b26 _ _ _, names_row (own_cast (own_set3 o15 (own_box o15 b26 (by decide)) _ _ _) (by simp) rfl), RowS.of_own (own_cast (own_set3 o24 (own_box o24 b26 (by decide)) _ _ _) (by simp) rfl), hbf⟩
                    · go_simp
                      have hs := ext_alloc W3 (.cells #[.slice none 0 0, .slice none 0 0, .slice none 0 0] 39)
                      have b26 := heap_new W3 (.cells #[.slice none 0 0, .slice none 0 0, .slice none 0 0] 39)
                      refine hK _ _ ⟨HCS.out _ (ext_trans hb3 hs), ?_⟩
                      clear hK K
                      replace b13 := (hs.block _ (box_lt b13)).trans b13
                      replace b14 := (hs.block _ (box_lt b14)).trans b14
                      replace b23 := (hs.block _ (box_lt b23)).trans b23
                      have hb4 := ext_trans hb3 hs
                      generalize W3.alloc (.cells #[.slice none 0 0, .slice none 0 0, .slice none 0 0] 39) = W4 at *
                      have hlop26 := hb3.size
                      clear hs hb3
                      generalize W3.heap.size = p26 at *
                      refine wpAnyL_ready (rs := [15]) (by kernel_rfl) (by simp) ?_
                      refine AllL.cons rfl (by kernel_rfl) (fun K hK => ?_) AllL.nil
                      go_simp
                      refine (CN.out W4 p13 p14 hb4 b13 b14).mono ?_
                      rintro e W5 ⟨x15, rfl, o15, hs⟩
                      obtain ⟨x15a, x15c, rfl⟩ := own_isSlice o15
                      refine hK _ _ ⟨HCS.out _ (ext_trans hb4 hs), ?_⟩
                      clear hK K
                      replace b13 := (hs.block _ (box_lt b13)).trans b13
                      replace b14 := (hs.block _ (box_lt b14)).trans b14
                      replace b23 := (hs.block _ (box_lt b23)).trans b23
                      replace b26 := (hs.block _ (box_lt b26)).trans b26
                      have hb5 := ext_trans hb4 hs
                      have hlox15 := hb4.size
                      clear hs hb4
                      generalize W4.heap.size = Bx15 at *
                      refine wpAnyL_ready (rs := [24]) (by kernel_rfl) (by simp) ?_
                      refine AllL.cons rfl (by kernel_rfl) (fun K hK => ?_) AllL.nil
                      go_simp
                      refine (CV.out W5 p23 hb5 b23).mono ?_
                      rintro e W6 ⟨x24, rfl, o24, hs⟩
                      obtain ⟨x24a, x24c, rfl⟩ := own_isSlice o24
                      refine hK _ _ ⟨HCS.out _ (ext_trans hb5 hs), ?_⟩
                      clear hK K
                      replace b13 := (hs.block _ (box_lt b13)).trans b13
                      replace b14 := (hs.block _ (box_lt b14)).trans b14
                      replace b23 := (hs.block _ (box_lt b23)).trans b23
                      replace b26 := (hs.block _ (box_lt b26)).trans b26
                      replace o15 := own_below o15 hs
                      have hb6 := ext_trans hb5 hs
                      have hlox24 := hb5.size
                      clear hs hb5
                      generalize W5.heap.size = Bx24 at *
                      refine wpAnyL_take (T := fun _ => True) (i := 25) (v := ?vvh6x25) rfl (by kernel_rfl) (by kernel_rfl) (by kernel_rfl) (fun _ _ _ h => h) (fun _ _ => Iff.rfl) (fun _ _ _ _ _ => trivial) (Closed.of_B (by kernel_rfl)) (Or.inl ⟨by kernel_rfl, ?hyh6x25⟩) (HCS.out _ hb6) ?resth6x25
                      case hyh6x25 => (intro w _; go_simp; with_reducible rfl)
                      go_simp
                      as_aux_lemma =>
                        refine wpAnyL_ready (rs := [27]) (by kernel_rfl) (by simp) ?_
                        refine AllL.cons rfl (by kernel_rfl) (fun K hK => ?_) AllL.nil
                        have d0 := box_frozen b26 0
                        have d1 := box_frozen b26 1
                        have d2 := box_frozen b26 2
                        have e0 := box_cell b26 0
                        have e1 := box_cell b26 1
                        have e2 := box_cell b26 2
                        simp only [List.getElem?_toArray, List.getElem?_cons_zero, List.getElem?_cons_succ] at e0 e1 e2
                        go_simp
                        have hbf := ((hb6.setCell hlop26 (.slice u1a m u1c) (p := ⟨p26, 0, none⟩)).setCell hlop26 (.slice x15a (names.length + 1) x15c) (p := ⟨p26, 1, none⟩)).setCell hlop26 (.slice x24a (named.length + 1) x24c) (p := ⟨p26, 2, none⟩)
                        refine hK _ _ ⟨HCS.out _ hbf, ?_⟩
                        clear hK K
                        refine wpAnyL_done (by kernel_rfl) ?_ _
                        refine NoPanic.normal ?_
                        go_wp2
                        go_meet
                        exact ⟨p26, _, _, _, _, rfl, box3_set b26 _ _ _, names_row (own_cast (own_set3 o15 (own_box o15 b26 (by decide)) _ _ _) (by simp) rfl), RowS.of_own (own_cast (own_set3 o24 (own_box o24 b26 (by decide)) _ _ _) (by simp) rfl), hbf⟩
                  · go_simp
                    have hs := ext_alloc W2 (.cells #[.slice none 0 0, .slice none 0 0, .slice none 0 0] 39)
                    have b26 := heap_new W2 (.cells #[.slice none 0 0, .slice none 0 0, .slice none 0 0] 39)
                    refine hK _ _ ⟨HCS.out _ (ext_trans hb2 hs), ?_⟩
                    clear hK K
                    replace b13 := (hs.block _ (box_lt b13)).trans b13
                    replace b14 := (hs.block _ (box_lt b14)).trans b14
                    have hb3 := ext_trans hb2 hs
                    generalize W2.alloc (.cells #[.slice none 0 0, .slice none 0 0, .slice none 0 0] 39) = W3 at *
                    have hlop26 := hb2.size
                    clear hs hb2
                    generalize W2.heap.size = p26 at *
                    refine wpAnyL_ready (rs := [15, 23]) (by kernel_rfl) (by simp) ?_
                    refine AllL.cons rfl (by kernel_rfl) (fun K hK => ?_) (AllL.cons rfl (by kernel_rfl) (fun K hK => ?_) AllL.nil)
                    · go_simp
                      refine (CN.out W3 p13 p14 hb3 b13 b14).mono ?_
                      rintro e W4 ⟨x15, rfl, o15, hs⟩
                      obtain ⟨x15a, x15c, rfl⟩ := own_isSlice o15
                      refine hK _ _ ⟨HCS.out _ (ext_trans hb3 hs), ?_⟩
                      clear hK K
                      replace b13 := (hs.block _ (box_lt b13)).trans b13
                      replace b14 := (hs.block _ (box_lt b14)).trans b14
                      replace b26 := (hs.block _ (box_lt b26)).trans b26
                      have hb4 := ext_trans hb3 hs
                      have hlox15 := hb3.size
                      clear hs hb3
                      generalize W3.heap.size = Bx15 at *
                      refine wpAnyL_ready (rs := [23]) (by kernel_rfl) (by simp) ?_
                      refine AllL.cons rfl (by kernel_rfl) (fun K hK => ?_) AllL.nil
                      go_simp
                      have hs := ext_alloc W4 (.cells #[.slice ma named.length mc, .slice u2a 1 u2c] 36)
                      have b23 := heap_new W4 (.cells #[.slice ma named.length mc, .slice u2a 1 u2c] 36)
                      refine hK _ _ ⟨HCS.out _ (ext_trans hb4 hs), ?_⟩
                      clear hK K
                      replace b13 := (hs.block _ (box_lt b13)).trans b13
                      replace b14 := (hs.block _ (box_lt b14)).trans b14
                      replace b26 := (hs.block _ (box_lt b26)).trans b26
                      replace o15 := own_below o15 hs
                      have hb5 := ext_trans hb4 hs
                      generalize W4.alloc (.cells #[.slice ma named.length mc, .slice u2a 1 u2c] 36) = W5 at *
                      have hlop23 := hb4.size
                      clear hs hb4
                      generalize W4.heap.size = p23 at *
                      refine wpAnyL_ready (rs := [24]) (by kernel_rfl) (by simp) ?_
                      refine AllL.cons rfl (by kernel_rfl) (fun K hK => ?_) AllL.nil
                      go_simp
                      refine (CV.out W5 p23 hb5 b23).mono ?_
                      rintro e W6 ⟨x24, rfl, o24, hs⟩
                      obtain ⟨x24a, x24c, rfl⟩ := own_isSlice o24
                      refine hK _ _ ⟨HCS.out _ (ext_trans hb5 hs), ?_⟩
                      clear hK K
                      replace b13 := (hs.block _ (box_lt b13)).trans b13
                      replace b14 := (hs.block _ (box_lt b14)).trans b14
                      replace b26 := (hs.block _ (box_lt b26)).trans b26
                      replace b23 := (hs.block _ (box_lt b23)).trans b23
                      replace o15 := own_below o15 hs
                      have hb6 := ext_trans hb5 hs
                      have hlox24 := hb5.size
                      clear hs hb5
                      generalize W5.heap.size = Bx24 at *
                      refine wpAnyL_take (T := fun _ => True) (i := 25) (v := ?vvh7x25) rfl (by kernel_rfl) (by kernel_rfl) (by kernel_rfl) (fun _ _ _ h => h) (fun _ _ => Iff.rfl) (fun _ _ _ _ _ => trivial) (Closed.of_B (by kernel_rfl)) (Or.inl ⟨by kernel_rfl, ?hyh7x25⟩) (HCS.out _ hb6) ?resth7x25
                      case hyh7x25 => (intro w _; go_simp; with_reducible rfl)
                      go_simp
                      as_aux_lemma =>
                        refine wpAnyL_ready (rs := [27]) (by kernel_rfl) (by simp) ?_
                        refine AllL.cons rfl (by kernel_rfl) (fun K hK => ?_) AllL.nil
                        have d0 := box_frozen b26 0
                        have d1 := box_frozen b26 1
                        have d2 := box_frozen b26 2
                        have e0 := box_cell b26 0
                        have e1 := box_cell b26 1
                        have e2 := box_cell b26 2
                        simp only [List.getElem?_toArray, List.getElem?_cons_zero, List.getElem?_cons_succ] at e0 e1 e2
                        go_simp
                        have hbf := ((hb6.setCell hlop26 (.slice u1a m u1c) (p := ⟨p26, 0, none⟩)).setCell hlop26 (.slice x15a (names.length + 1) x15c) (p := ⟨p26, 1, none⟩)).setCell hlop26 (.slice x24a (named.length + 1) x24c) (p := ⟨p26, 2, none⟩)
                        refine hK _ _ ⟨HCS.out _ hbf, ?_⟩
                        clear hK K
                        refine wpAnyL_done (by kernel_rfl) ?_ _
                        refine NoPanic.normal ?_
                        go_wp2
                        go_meet
                        exact ⟨p26, _, _, _, _, rfl, box3_set b26 _ _ _, names_row (own_cast (own_set3 o15 (own_box o15 b26 (by decide)) _ _ _) (by simp) rfl), RowS.of_own (own_cast (own_set3 o24 (own_box o24 b26 (by decide)) _ _ _) (by simp) rfl), hbf⟩
                    · go_simp
                      have hs := ext_alloc W3 (.cells #[.slice ma named.length mc, .slice u2a 1 u2c] 36)
                      have b23 := heap_new W3 (.cells #[.slice ma named.length mc, .slice u2a 1 u2c] 36)
                      refine hK _ _ ⟨HCS.out _ (ext_trans hb3 hs), ?_⟩
                      clear hK K
                      replace b13 := (hs.block _ (box_lt b13)).trans b13
                      replace b14 := (hs.block _ (box_lt b14)).trans b14
                      replace b26 := (hs.block _ (box_lt b26)).trans b26
                      have hb4 := ext_trans hb3 hs
                      generalize W3.alloc (.cells #[.slice ma named.length mc, .slice u2a 1 u2c] 36) = W4 at *
                      have hlop23 := hb3.size
                      clear hs hb3
                      generalize W3.heap.size = p23 at *
                      refine wpAnyL_ready (rs := [15]) (by kernel_rfl) (by simp) ?_
                      refine AllL.cons rfl (by kernel_rfl) (fun K hK => ?_) AllL.nil
                      go_simp
                      refine (CN.out W4 p13 p14 hb4 b13 b14).mono ?_
                      rintro e W5 ⟨x15, rfl, o15, hs⟩
                      obtain ⟨x15a, x15c, rfl⟩ := own_isSlice o15
                      refine hK _ _ ⟨HCS.out _ (ext_trans hb4 hs), ?_⟩
                      clear hK K
                      replace b13 := (hs.block _ (box_lt b13)).trans b13
                      replace b14 := (hs.block _ (box_lt b14)).trans b14
                      replace b26 := (hs.block _ (box_lt b26)).trans b26
                      replace b23 := (hs.block _ (box_lt b23)).trans b23
                      have hb5 := ext_trans hb4 hs
                      have hlox15 := hb4.size
                      clear hs hb4
                      generalize W4.heap.size = Bx15 at *
                      refine wpAnyL_ready (rs := [24]) (by kernel_rfl) (by simp) ?_
                      refine AllL.cons rfl (by kernel_rfl) (fun K hK => ?_) AllL.nil
                      go_simp
                      refine (CV.out W5 p23 hb5 b23).mono ?_
                      rintro e W6 ⟨x24, rfl, o24, hs⟩
                      obtain ⟨x24a, x24c, rfl⟩ := own_isSlice o24
                      refine hK _ _ ⟨HCS.out _ (ext_trans hb5 hs), ?_⟩
                      clear hK K
                      replace b13 := (hs.block _ (box_lt b13)).trans b13
                      replace b14 := (hs.block _ (box_lt b14)).trans b14
                      replace b26 := (hs.block _ (box_lt b26)).trans b26
                      replace b23 := (hs.block _ (box_lt b23)).trans b23
                      replace o15 := own_below o15 hs
                      have hb6 := ext_trans hb5 hs
                      have hlox24 := hb5.size
                      clear hs hb5
                      generalize W5.heap.size = Bx24 at *
                      refine wpAnyL_take (T := fun _ => True) (i := 25) (v := ?vvh8x25) rfl (by kernel_rfl) (by kernel_rfl) (by kernel_rfl) (fun _ _ _ h => h) (fun _ _ => Iff.rfl) (fun _ _ _ _ _ => trivial) (Closed.of_B (by kernel_rfl)) (Or.inl ⟨by kernel_rfl, ?hyh8x25⟩) (HCS.out _ hb6) ?resth8x25
                      case hyh8x25 => (intro w _; go_simp; with_reducible rfl)
                      go_simp
                      as_aux_lemma =>
                        refine wpAnyL_ready (rs := [27]) (by kernel_rfl) (by simp) ?_
                        refine AllL.cons rfl (by kernel_rfl) (fun K hK => ?_) AllL.nil
                        have d0 := box_frozen b26 0
                        have d1 := box_frozen b26 1
                        have d2 := box_frozen b26 2
                        have e0 := box_cell b26 0
                        have e1 := box_cell b26 1
                        have e2 := box_cell b26 2
                        simp only [List.getElem?_toArray, List.getElem?_cons_zero, List.getElem?_cons_succ] at e0 e1 e2
                        go_simp
                        have hbf := ((hb6.setCell hlop26 (.slice u1a m u1c) (p := ⟨p26, 0, none⟩)).setCell hlop26 (.slice x15a (names.length + 1) x15c) (p := ⟨p26, 1, none⟩)).setCell hlop26 (.slice x24a (named.length + 1) x24c) (p := ⟨p26, 2, none⟩)
                        refine hK _ _ ⟨HCS.out _ hbf, ?_⟩
                        clear hK K
                        refine wpAnyL_done (by kernel_rfl) ?_ _
                        refine NoPanic.normal ?_
                        go_wp2
                        go_meet
                        exact ⟨p26, _, _, _, _, rfl, box3_set b26 _ _ _, names_row (own_cast (own_set3 o15 (own_box o15 b26 (by decide)) _ _ _) (by simp) rfl), RowS.of_own (own_cast (own_set3 o24 (own_box o24 b26 (by decide)) _ _ _) (by simp) rfl), hbf⟩
                · go_simp
                  have hs := ext_alloc W1 (.cells #[.slice ma named.length mc, .slice u2a 1 u2c] 36)
                  have b23 := heap_new W1 (.cells #[.slice ma named.length mc, .slice u2a 1 u2c] 36)
                  refine hK _ _ ⟨HCS.out _ (ext_trans hb1 hs), ?_⟩
                  clear hK K
                  replace b13 := (hs.block _ (box_lt b13)).trans b13
                  have hb2 := ext_trans hb1 hs
                  generalize W1.alloc (.cells #[.slice ma named.length mc, .slice u2a 1 u2c] 36) = W2 at *
                  have hlop23 := hb1.size
                  clear hs hb1
                  generalize W1.heap.size = p23 at *
                  refine wpAnyL_ready (rs := [14, 26]) (by kernel_rfl) (by simp) ?_
                  refine AllL.cons rfl (by kernel_rfl) (fun K hK => ?_) (AllL.cons rfl (by kernel_rfl) (fun K hK => ?_) AllL.nil)
                  · go_simp
                    have hs := ext_alloc W2 (.cells #[.slice na names.length nc, .slice (some ⟨p13, 0, none⟩) 1 1] 37)
                    have b14 := heap_new W2 (.cells #[.slice na names.length nc, .slice (some ⟨p13, 0, none⟩) 1 1] 37)
                    refine hK _ _ ⟨HCS.out _ (ext_trans hb2 hs), ?_⟩
                    clear hK K
                    replace b13 := (hs.block _ (box_lt b13)).trans b13
                    replace b23 := (hs.block _ (box_lt b23)).trans b23
                    have hb3 := ext_trans hb2 hs
                    generalize W2.alloc (.cells #[.slice na names.length nc, .slice (some ⟨p13, 0, none⟩) 1 1] 37) = W3 at *
                    have hlop14 := hb2.size
                    clear hs hb2
                    generalize W2.heap.size = p14 at *
                    refine wpAnyL_ready (rs := [15, 26]) (by kernel_rfl) (by simp) ?_
                    refine AllL.cons rfl (by kernel_rfl) (fun K hK => ?_) (AllL.cons rfl (by kernel_rfl) (fun K hK => ?_) AllL.nil)
                    · go_simp
                      refine (CN.out W3 p13 p14 hb3 b13 b14).mono ?_
                      rintro e W4 ⟨x15, rfl, o15, hs⟩
                      obtain ⟨x15a, x15c, rfl⟩ := own_isSlice o15
                      refine hK _ _ ⟨HCS.out _ (ext_trans hb3 hs), ?_⟩
                      clear hK K
                      replace b13 := (hs.block _ (box_lt b13)).trans b13
                      replace b23 := (hs.block _ (box_lt b23)).trans b23
                      replace b14 := (hs.block _ (box_lt b14)).trans b14
                      have hb4 := ext_trans hb3 hs
                      have hlox15 := hb3.size
                      clear hs hb3
                      generalize W3.heap.size = Bx15 at *
                      refine wpAnyL_ready (rs := [24, 26]) (by kernel_rfl) (by simp) ?_
                      refine AllL.cons rfl (by kernel_rfl) (fun K hK => ?_) (AllL.cons rfl (by kernel_rfl) (fun K hK => ?_) AllL.nil)
                      · go_simp
                        refine (CV.out W4 p23 hb4 b23).mono ?_
                        rintro e W5 ⟨x24, rfl, o24, hs⟩
                        obtain ⟨x24a, x24c, rfl⟩ := own_isSlice o24
                        refine hK _ _ ⟨HCS.out _ (ext_trans hb4 hs), ?_⟩
                        clear hK K
                        replace b13 := (hs.block _ (box_lt b13)).trans b13
                        replace b23 := (hs.block _ (box_lt b23)).trans b23
                        replace b14 := (hs.block _ (box_lt b14)).trans b14
                        replace o15 := own_below o15 hs
                        have hb5 := ext_trans hb4 hs
                        have hlox24 := hb4.size
                        clear hs hb4
                        generalize W4.heap.size = Bx24 at *
                        refine wpAnyL_take (T := fun _ => True) (i := 25) (v := ?vvh9x25) rfl (by kernel_rfl) (by kernel_rfl) (by kernel_rfl) (fun _ _ _ h => h) (fun _ _ => Iff.rfl) (fun _ _ _ _ _ => trivial) (Closed.of_B (by kernel_rfl)) (Or.inl ⟨by kernel_rfl, ?hyh9x25⟩) (HCS.out _ hb5) ?resth9x25
                        case hyh9x25 => (intro w _; go_simp; with_reducible rfl)
                        go_simp
                        refine wpAnyL_ready (rs := [26]) (by kernel_rfl) (by simp) ?_
                        refine AllL.cons rfl (by kernel_rfl) (fun K hK => ?_) AllL.nil
                        go_simp
                        have hs := ext_alloc W5 (.cells #[.slice none 0 0, .slice none 0 0, .slice none 0 0] 39)
                        have b26 := heap_new W5 (.cells #[.slice none 0 0, .slice none 0 0, .slice none 0 0] 39)
                        refine hK _ _ ⟨HCS.out _ (ext_trans hb5 hs), ?_⟩
                        clear hK K
                        replace b13 := (hs.block _ (box_lt b13)).trans b13
                        replace b23 := (hs.block _ (box_lt b23)).trans b23
                        replace b14 := (hs.block _ (box_lt b14)).trans b14
                        replace o15 := own_below o15 hs
                        replace o24 := own_below o24 hs
                        have hb6 := ext_trans hb5 hs
                        generalize W5.alloc (.cells #[.slice none 0 0, .slice none 0 0, .slice none 0 0] 39) = W6 at *
                        have hlop26 := hb5.size
                        clear hs hb5
                        generalize W5.heap.size = p26 at *
                        as_aux_lemma =>
                          refine wpAnyL_ready (rs := [27]) (by kernel_rfl) (by simp) ?_
                          refine AllL.cons rfl (by kernel_rfl) (fun K hK => ?_) AllL.nil
                          have d0 := box_frozen b26 0
                          have d1 := box_frozen b26 1
                          have d2 := box_frozen b26 2
                          have e0 := box_cell b26 0
                          have e1 := box_cell b26 1
                          have e2 := box_cell b26 2
                          simp only [List.getElem?_toArray, List.getElem?_cons_zero, List.getElem?_cons_succ] at e0 e1 e2
                          go_simp
                          have hbf := ((hb6.setCell hlop26 (.slice u1a m u1c) (p := ⟨p26, 0, none⟩)).setCell hlop26 (.slice x15a (names.length + 1) x15c) (p := ⟨p26, 1, none⟩)).setCell hlop26 (.slice x24a (named.length + 1) x24c) (p := ⟨p26, 2, none⟩)
                          refine hK _ _ ⟨HCS.out _ hbf, ?_⟩
                          clear hK K
                          refine wpAnyL_done (by kernel_rfl) ?_ _
                          refine NoPanic.normal ?_
                          go_wp2
                          go_meet
                          exact ⟨p26, _, _, _, _, rfl, box3_set b26 _ _ _, names_row (own_cast (own_set3 o15 (own_box o15 b26 (by decide)) _ _ _) (by simp) rfl), RowS.of_own (own_cast (own_set3 o24 (own_box o24 b26 (by decide)) _ _ _) (by simp) rfl), hbf⟩
                      · go_simp
                        have hs := ext_alloc W4 (.cells #[.slice none 0 0, .slice none 0 0, .slice none 0 0] 39)
                        have b26 := heap_new W4 (.cells #[.slice none 0 0, .slice none 0 0, .slice none 0 0] 39)
                        refine hK _ _ ⟨HCS.out _ (ext_trans hb4 hs), ?_⟩
                        clear hK K
                        replace b13 := (hs.block _ (box_lt b13)).trans b13
                        replace b23 := (hs.block _ (box_lt b23)).trans b23
                        replace b14 := (hs.block _ (box_lt b14)).trans b14
                        replace o15 := own_below o15 hs
                        have hb5 := ext_trans hb4 hs
                        generalize W4.alloc (.cells #[.slice none 0 0, .slice none 0 0, .slice none 0 0] 39) = W5 at *
                        have hlop26 := hb4.size
                        clear hs hb4
                        generalize W4.heap.size = p26 at *
                        refine wpAnyL_ready (rs := [24]) (by kernel_rfl) (by simp) ?_
                        refine AllL.cons rfl (by kernel_rfl) (fun K hK => ?_) AllL.nil
                        go_simp
                        refine (CV.out W5 p23 hb5 b23).mono ?_
                        rintro e W6 ⟨x24, rfl, o24, hs⟩
                        obtain ⟨x24a, x24c, rfl⟩ := own_isSlice o24
                        refine hK _ _ ⟨HCS.out _ (ext_trans hb5 hs), ?_⟩
                        clear hK K
                        replace b13 := (hs.block _ (box_lt b13)).trans b13
                        replace b23 := (hs.block _ (box_lt b23)).trans b23
                        replace b14 := (hs.block _ (box_lt b14)).trans b14
                        replace b26 := (hs.block _ (box_lt b26)).trans b26
                        replace o15 := own_below o15 hs
                        have hb6 := ext_trans hb5 hs
                        have hlox24 := hb5.size
                        clear hs hb5
                        generalize W5.heap.size = Bx24 at *
                        refine wpAnyL_take (T := fun _ => True) (i := 25) (v := ?vvh10x25) rfl (by kernel_rfl) (by kernel_rfl) (by kernel_rfl) (fun _ _ _ h => h) (fun _ _ => Iff.rfl) (fun _ _ _ _ _ => trivial) (Closed.of_B (by kernel_rfl)) (Or.inl ⟨by kernel_rfl, ?hyh10x25⟩) (HCS.out _ hb6) ?resth10x25
                        case hyh10x25 => (intro w _; go_simp; with_reducible rfl)
                        go_simp
                        as_aux_lemma =>
                          refine wpAnyL_ready (rs := [27]) (by kernel_rfl) (by simp) ?_
                          refine AllL.cons rfl (by kernel_rfl) (fun K hK => ?_) AllL.nil
                          have d0 := box_frozen b26 0
                          have d1 := box_frozen b26 1
                          have d2 := box_frozen b26 2
                          have e0 := box_cell b26 0
                          have e1 := box_cell b26 1
                          have e2 := box_cell b26 2
                          simp only [List.getElem?_toArray, List.getElem?_cons_zero, List.getElem?_cons_succ] at e0 e1 e2
                          go_simp
                          have hbf := ((hb6.setCell hlop26 (.slice u1a m u1c) (p := ⟨p26, 0, none⟩)).setCell hlop26 (.slice x15a (names.length + 1) x15c) (p := ⟨p26, 1, none⟩)).setCell hlop26 (.slice x24a (named.length + 1) x24c) (p := ⟨p26, 2, none⟩)
                          refine hK _ _ ⟨HCS.out _ hbf, ?_⟩
                          clear hK K
                          refine wpAnyL_done (by kernel_rfl) ?_ _
                          refine NoPanic.normal ?_
                          go_wp2
                          go_meet
                          exact ⟨p26, _, _, _, _, rfl, box3_set b26 _ _ _, names_row (own_cast (own_set3 o15 (own_box o15 b26 (by decide)) _ _ _) (by simp) rfl), RowS.of_own (own_cast (own_set3 o24 (own_box o24 b26 (by decide)) _ _ _) (by simp) rfl), hbf⟩
                    · go_simp
                      have hs := ext_alloc W3 (.cells #[.slice none 0 0, .slice none 0 0, .slice none 0 0] 39)
                      have b26 := heap_new W3 (.cells #[.slice none 0 0, .slice none 0 0, .slice none 0 0] 39)
                      refine hK _ _ ⟨HCS.out _ (ext_trans hb3 hs), ?_⟩
                      clear hK K
                      replace b13 := (hs.block _ (box_lt b13)).trans b13
                      replace b23 := (hs.block _ (box_lt b23)).trans b23
                      replace b14 := (hs.block _ (box_lt b14)).trans b14
                      have hb4 := ext_trans hb3 hs
                      generalize W3.alloc (.cells #[.slice none 0 0, .slice none 0 0, .slice none 0 0] 39) = W4 at *
                      have hlop26 := hb3.size
                      clear hs hb3
                      generalize W3.heap.size = p26 at *
                      refine wpAnyL_ready (rs := [15]) (by kernel_rfl) (by simp) ?_
                      refine AllL.cons rfl (by kernel_rfl) (fun K hK => ?_) AllL.nil
                      go_simp
                      refine (CN.out W4 p13 p14 hb4 b13 b14).mono ?_
                      rintro e W5 ⟨x15, rfl, o15, hs⟩
                      obtain ⟨x15a, x15c, rfl⟩ := own_isSlice o15
                      refine hK _ _ ⟨HCS.out _ (ext_trans hb4 hs), ?_⟩
                      clear hK K
                      replace b13 := (hs.block _ (box_lt b13)).trans b13
                      replace b23 := (hs.block _ (box_lt b23)).trans b23
                      replace b14 := (hs.block _ (box_lt b14)).trans b14
                      replace b26 := (hs.block _ (box_lt b26)).trans b26
                      have hb5 := ext_trans hb4 hs
                      have hlox15 := hb4.size
                      clear hs hb4
                      generalize W4.heap.size = Bx15 at *
                      refine wpAnyL_ready (rs := [24]) (by kernel_rfl) (by simp) ?_
                      refine AllL.cons rfl (by kernel_rfl) (fun K hK => ?_) AllL.nil
                      go_simp
                      refine (CV.out W5 p23 hb5 b23).mono ?_
                      rintro e W6 ⟨x24, rfl, o24, hs⟩
                      obtain ⟨x24a, x24c, rfl⟩ := own_isSlice o24
                      refine hK _ _ ⟨HCS.out _ (ext_trans hb5 hs), ?_⟩
                      clear hK K
                      replace b13 := (hs.block _ (box_lt b13)).trans b13
                      replace b23 := (hs.block _ (box_lt b23)).trans b23
                      replace b14 := (hs.block _ (box_lt b14)).trans b14
                      replace b26 := (hs.block _ (box_lt b26)).trans b26
                      replace o15 := own_below o15 hs
                      have hb6 := ext_trans hb5 hs
                      have hlox24 := hb5.size
                      clear hs hb5
                      generalize W5.heap.size = Bx24 at *
                      refine wpAnyL_take (T := fun _ => True) (i := 25) (v := ?vvh11x25) rfl (by kernel_rfl) (by kernel_rfl) (by kernel_rfl) (fun _ _ _ h => h) (fun _ _ => Iff.rfl) (fun _ _ _ _ _ => trivial) (Closed.of_B (by kernel_rfl)) (Or.inl ⟨by kernel_rfl, ?hyh11x25⟩) (HCS.out _ hb6) ?resth11x25
                      case hyh11x25 => (intro w _; go_simp; with_reducible rfl)
                      go_simp
                      as_aux_lemma =>
                        refine wpAnyL_ready (rs := [27]) (by kernel_rfl) (by simp) ?_
                        refine AllL.cons rfl (by kernel_rfl) (fun K hK => ?_) AllL.nil
                        have d0 := box_frozen b26 0
                        have d1 := box_frozen b26 1
                        have d2 := box_frozen b26 2
                        have e0 := box_cell b26 0
                        have e1 := box_cell b26 1
                        have e2 := box_cell b26 2
                        simp only [List.getElem?_toArray, List.getElem?_cons_zero, List.getElem?_cons_succ] at e0 e1 e2
                        go_simp
                        have hbf := ((hb6.setCell hlop26 (.slice u1a m u1c) (p := ⟨p26, 0, none⟩)).setCell hlop26 (.slice x15a (names.length + 1) x15c) (p := ⟨p26, 1, none⟩)).setCell hlop26 (.slice x24a (named.length + 1) x24c) (p := ⟨p26, 2, none⟩)
                        refine hK _ _ ⟨HCS.out _ hbf, ?_⟩
                        clear hK K
                        refine wpAnyL_done (by kernel_rfl) ?_ _
                        refine NoPanic.normal ?_
                        go_wp2
                        go_meet
                        exact ⟨p26, _, _, _, _, rfl, box3_set b26 _ _ _, names_row (own_cast (own_set3 o15 (own_box o15 b26 (by decide)) _ _ _) (by simp) rfl), RowS.of_own (own_cast (own_set3 o24 (own_box o24 b26 (by decide)) _ _ _) (by simp) rfl), hbf⟩
                  · go_simp
                    have hs := ext_alloc W2 (.cells #[.slice none 0 0, .slice none 0 0, .slice none 0 0] 39)
                    have b26 := heap_new W2 (.cells #[.slice none 0 0, .slice none 0 0, .slice none 0 0] 39)
                    refine hK _ _ ⟨HCS.out _ (ext_trans hb2 hs), ?_⟩
                    clear hK K
                    replace b13 := (hs.block _ (box_lt b13)).trans b13
                    replace b23 := (hs.block _ (box_lt b23)).trans b23
                    have hb3 := ext_trans hb2 hs
                    generalize W2.alloc (.cells #[.slice none 0 0, .slice none 0 0, .slice none 0 0] 39) = W3 at *
                    have hlop26 := hb2.size
                    clear hs hb2
                    generalize W2.heap.size = p26 at *
                    refine wpAnyL_ready (rs := [14]) (by kernel_rfl) (by simp) ?_
                    refine AllL.cons rfl (by kernel_rfl) (fun K hK => ?_) AllL.nil
                    go_simp
                    have hs := ext_alloc W3 (.cells #[.slice na names.length nc, .slice (some ⟨p13, 0, none⟩) 1 1] 37)
                    have b14 := heap_new W3 (.cells #[.slice na names.length nc, .slice (some ⟨p13, 0, none⟩) 1 1] 37)
                    refine hK _ _ ⟨HCS.out _ (ext_trans hb3 hs), ?_⟩
                    clear hK K
                    replace b13 := (hs.block _ (box_lt b13)).trans b13
                    replace b23 := (hs.block _ (box_lt b23)).trans b23
                    replace b26 := (hs.block _ (box_lt b26)).trans b26
                    have hb4 := ext_trans hb3 hs
                    generalize W3.alloc (.cells #[.slice na names.length nc, .slice (some ⟨p13, 0, none⟩) 1 1] 37) = W4 at *
                    have hlop14 := hb3.size
                    clear hs hb3
                    generalize W3.heap.size = p14 at *
                    refine wpAnyL_ready (rs := [15]) (by kernel_rfl) (by simp) ?_
                    refine AllL.cons rfl (by kernel_rfl) (fun K hK => ?_) AllL.nil
                    go_simp
                    refine (CN.out W4 p13 p14 hb4 b13 b14).mono ?_
                    rintro e W5 ⟨x15, rfl, o15, hs⟩
                    obtain ⟨x15a, x15c, rfl⟩ := own_isSlice o15
                    refine hK _ _ ⟨HCS.out _ (ext_trans hb4 hs), ?_⟩
                    clear hK K
                    replace b13 := (hs.block _ (box_lt b13)).trans b13
                    replace b23 := (hs.block _ (box_lt b23)).trans b23
                    replace b26 := (hs.block _ (box_lt b26)).trans b26
                    replace b14 := (hs.block _ (box_lt b14)).trans b14
                    have hb5 := ext_trans hb4 hs
                    have hlox15 := hb4.size
                    clear hs hb4
                    generalize W4.heap.size = Bx15 at *
                    refine wpAnyL_ready (rs := [24]) (by kernel_rfl) (by simp) ?_
                    refine AllL.cons rfl (by kernel_rfl) (fun K hK => ?_) AllL.nil
                    go_simp
                    refine (CV.out W5 p23 hb5 b23).mono ?_
                    rintro e W6 ⟨x24, rfl, o24, hs⟩
                    obtain ⟨x24a, x24c, rfl⟩ := own_isSlice o24
                    refine hK _ _ ⟨HCS.out _ (ext_trans hb5 hs), ?_⟩
                    clear hK K
                    replace b13 := (hs.block _ (box_lt b13)).trans b13
                    replace b23 := (hs.block _ (box_lt b23)).trans b23
                    replace b26 := (hs.block _ (box_lt b26)).trans b26
                    replace b14 := (hs.block _ (box_lt b14)).trans b14
                    replace o15 := own_below o15 hs
                    have hb6 := ext_trans hb5 hs
                    have hlox24 := hb5.size
                    clear hs hb5
                    generalize W5.heap.size = Bx24 at *
                    refine wpAnyL_take (T := fun _ => True) (i := 25) (v := ?vvh12x25) rfl (by kernel_rfl) (by kernel_rfl) (by kernel_rfl) (fun _ _ _ h => h) (fun _ _ => Iff.rfl) (fun _ _ _ _ _ => trivial) (Closed.of_B (by kernel_rfl)) (Or.inl ⟨by kernel_rfl, ?hyh12x25⟩) (HCS.out _ hb6) ?resth12x25
                    case hyh12x25 => (intro w _; go_simp; with_reducible rfl)
                    go_simp
                    as_aux_lemma =>
                      refine wpAnyL_ready (rs := [27]) (by kernel_rfl) (by simp) ?_
                      refine AllL.cons rfl (by kernel_rfl) (fun K hK => ?_) AllL.nil
                      have d0 := box_frozen b26 0
                      have d1 := box_frozen b26 1
                      have d2 := box_frozen b26 2
                      have e0 := box_cell b26 0
                      have e1 := box_cell b26 1
                      have e2 := box_cell b26 2
                      simp only [List.getElem?_toArray, List.getElem?_cons_zero, List.getElem?_cons_succ] at e0 e1 e2
                      go_simp
                      have hbf := ((hb6.setCell hlop26 (.slice u1a m u1c) (p := ⟨p26, 0, none⟩)).setCell hlop26 (.slice x15a (names.length + 1) x15c) (p := ⟨p26, 1, none⟩)).setCell hlop26 (.slice x24a (named.length + 1) x24c) (p := ⟨p26, 2, none⟩)
                      refine hK _ _ ⟨HCS.out _ hbf, ?_⟩
                      clear hK K
                      refine wpAnyL_done (by kernel_rfl) ?_ _
                      refine NoPanic.normal ?_
                      go_wp2
                      go_meet
                      exact ⟨p26, _, _, _, _, rfl, box3_set b26 _ _ _, names_row (own_cast (own_set3 o15 (own_box o15 b26 (by decide)) _ _ _) (by simp) rfl), RowS.of_own (own_cast (own_set3 o24 (own_box o24 b26 (by decide)) _ _ _) (by simp) rfl), hbf⟩
                · go_simp
                  have hs := ext_alloc W1 (.cells #[.slice none 0 0, .slice none 0 0, .slice none 0 0] 39)
                  have b26 := heap_new W1 (.cells #[.slice none 0 0, .slice none 0 0, .slice none 0 0] 39)
                  refine hK _ _ ⟨HCS.out _ (ext_trans hb1 hs), ?_⟩
                  clear hK K
                  replace b13 := (hs.block _ (box_lt b13)).trans b13
                  have hb2 := ext_trans hb1 hs
                  generalize W1.alloc (.cells #[.slice none 0 0, .slice none 0 0, .slice none 0 0] 39) = W2 at *
                  have hlop26 := hb1.size
                  clear hs hb1
                  generalize W1.heap.size = p26 at *
                  refine wpAnyL_ready (rs := [14, 23]) (by kernel_rfl) (by simp) ?_
                  refine AllL.cons rfl (by kernel_rfl) (fun K hK => ?_) (AllL.cons rfl (by kernel_rfl) (fun K hK => ?_) AllL.nil)
                  · go_simp
                    have hs := ext_alloc W2 (.cells #[.slice na names.length nc, .slice (some ⟨p13, 0, none⟩) 1 1] 37)
                    have b14 := heap_new W2 (.cells #[.slice na names.length nc, .slice (some ⟨p13, 0, none⟩) 1 1] 37)
                    refine hK _ _ ⟨HCS.out _ (ext_trans hb2 hs), ?_⟩
                    clear hK K
                    replace b13 := (hs.block _ (box_lt b13)).trans b13
                    replace b26 := (hs.block _ (box_lt b26)).trans b26
                    have hb3 := ext_trans hb2 hs
                    generalize W2.alloc (.cells #[.slice na names.length nc, .slice (some ⟨p13, 0, none⟩) 1 1] 37) = W3 at *
                    have hlop14 := hb2.size
                    clear hs hb2
                    generalize W2.heap.size = p14 at *
                    refine wpAnyL_ready (rs := [15, 23]) (by kernel_rfl) (by simp) ?_
                    refine AllL.cons rfl (by kernel_rfl) (fun K hK => ?_) (AllL.cons rfl (by kernel_rfl) (fun K hK => ?_) AllL.nil)
                    · go_simp
                      refine (CN.out W3 p13 p14 hb3 b13 b14).mono ?_
                      rintro e W4 ⟨x15, rfl, o15, hs⟩
                      obtain ⟨x15a, x15c, rfl⟩ := own_isSlice o15
                      refine hK _ _ ⟨HCS.out _ (ext_trans hb3 hs), ?_⟩
                      clear hK K
                      replace b13 := (hs.block _ (box_lt b13)).trans b13
                      replace b26 := (hs.block _ (box_lt b26)).trans b26
                      replace b14 := (hs.block _ (box_lt b14)).trans b14
                      have hb4 := ext_trans hb3 hs
                      have hlox15 := hb3.size
                      clear hs hb3
                      generalize W3.heap.size = Bx15 at *
                      refine wpAnyL_ready (rs := [23]) (by kernel_rfl) (by simp) ?_
                      refine AllL.cons rfl (by kernel_rfl) (fun K hK => ?_) AllL.nil
                      go_simp
                      have hs := ext_alloc W4 (.cells #[.slice ma named.length mc, .slice u2a 1 u2c] 36)
                      have b23 := heap_new W4 (.cells #[.slice ma named.length mc, .slice u2a 1 u2c] 36)
                      refine hK _ _ ⟨HCS.out _ (ext_trans hb4 hs), ?_⟩
                      clear hK K
                      replace b13 := (hs.block _ (box_lt b13)).trans b13
                      replace b26 := (hs.block _ (box_lt b26)).trans b26
                      replace b14 := (hs.block _ (box_lt b14)).trans b14
                      replace o15 := own_below o15 hs
                      have hb5 := ext_trans hb4 hs
                      generalize W4.alloc (.cells #[.slice ma named.length mc, .slice u2a 1 u2c] 36) = W5 at *
                      have hlop23 := hb4.size
                      clear hs hb4
                      generalize W4.heap.size = p23 at *
                      refine wpAnyL_ready (rs := [24]) (by kernel_rfl) (by simp) ?_
                      refine AllL.cons rfl (by kernel_rfl) (fun K hK => ?_) AllL.nil
                      go_simp
                      refine (CV.out W5 p23 hb5 b23).mono ?_
                      rintro e W6 ⟨x24, rfl, o24, hs⟩
                      obtain ⟨x24a, x24c, rfl⟩ := own_isSlice o24
                      refine hK _ _ ⟨HCS.out _ (ext_trans hb5 hs), ?_⟩
                      clear hK K
                      replace b13 := (hs.block _ (box_lt b13)).trans b13
                      replace b26 := (hs.block _ (box_lt b26)).trans b26
                      replace b14 := (hs.block _ (box_lt b14)).trans b14
                      replace b23 := (hs.block _ (box_lt b23)).trans b23
                      replace o15 := own_below o15 hs
                      have hb6 := ext_trans hb5 hs
                      have hlox24 := hb5.size
                      clear hs hb5
                      generalize W5.heap.size = Bx24 at *
                      refine wpAnyL_take (T := fun _ => True) (i := 25) (v := ?vvh13x25) rfl (by kernel_rfl) (by kernel_rfl) (by kernel_rfl) (fun _ _ _ h => h) (fun _ _ => Iff.rfl) (fun _ _ _ _ _ => trivial) (Closed.of_B (by kernel_rfl)) (Or.inl ⟨by kernel_rfl, ?hyh13x25⟩) (HCS.out _ hb6) ?resth13x25
                      case hyh13x25 => (intro w _; go_simp; with_reducible rfl)
                      go_simp
                      as_aux_lemma =>
                        refine wpAnyL_ready (rs := [27]) (by kernel_rfl) (by simp) ?_
                        refine AllL.cons rfl (by kernel_rfl) (fun K hK => ?_) AllL.nil
                        have d0 := box_frozen b26 0
                        have d1 := box_frozen b26 1
                        have d2 := box_frozen b26 2
                        have e0 := box_cell b26 0
                        have e1 := box_cell b26 1
                        have e2 := box_cell b26 2
                        simp only [List.getElem?_toArray, List.getElem?_cons_zero, List.getElem?_cons_succ] at e0 e1 e2
                        go_simp
                        have hbf := ((hb6.setCell hlop26 (.slice u1a m u1c) (p := ⟨p26, 0, none⟩)).setCell hlop26 (.slice x15a (names.length + 1) x15c) (p := ⟨p26, 1, none⟩)).setCell hlop26 (.slice x24a (named.length + 1) x24c) (p := ⟨p26, 2, none⟩)
                        refine hK _ _ ⟨HCS.out _ hbf, ?_⟩
                        clear hK K
                        refine wpAnyL_done (by kernel_rfl) ?_ _
                        refine NoPanic.normal ?_
                        go_wp2
                        go_meet
                        exact ⟨p26, _, _, _, _, rfl, box3_set b26 _ _ _, names_row (own_cast (own_set3 o15 (own_box o15 b26 (by decide)) _ _ _) (by simp) rfl), RowS.of_own (own_cast (own_set3 o24 (own_box o24 b26 (by decide)) _ _ _) (by simp) rfl), hbf⟩
                    · go_simp
                      have hs := ext_alloc W3 (.cells #[.slice ma named.length mc, .slice u2a 1 u2c] 36)
                      have b23 := heap_new W3 (.cells #[.slice ma named.length mc, .slice u2a 1 u2c] 36)
                      refine hK _ _ ⟨HCS.out _ (ext_trans hb3 hs), ?_⟩
                      clear hK K
                      replace b13 := (hs.block _ (box_lt b13)).trans b13
                      replace b26 := (hs.block _ (box_lt b26)).trans b26
                      replace b14 := (hs.block _ (box_lt b14)).trans b14
                      have hb4 := ext_trans hb3 hs
                      generalize W3.alloc (.cells #[.slice ma named.length mc, .slice u2a 1 u2c] 36) = W4 at *
                      have hlop23 := hb3.size
                      clear hs hb3
                      generalize W3.heap.size = p23 at *
                      refine wpAnyL_ready (rs := [15]) (by kernel_rfl) (by simp) ?_
                      refine AllL.cons rfl (by kernel_rfl) (fun K hK => ?_) AllL.nil
                      go_simp
                      refine (CN.out W4 p13 p14 hb4 b13 b14).mono ?_
                      rintro e W5 ⟨x15, rfl, o15, hs⟩
                      obtain ⟨x15a, x15c, rfl⟩ := own_isSlice o15
                      refine hK _ _ ⟨HCS.out _ (ext_trans hb4 hs), ?_⟩
                      clear hK K
                      replace b13 := (hs.block _ (box_lt b13)).trans b13
                      replace b26 := (hs.block _ (box_lt b26)).trans b26
                      replace b14 := (hs.block _ (box_lt b14)).trans b14
                      replace b23 := (hs.block _ (box_lt b23)).trans b23
                      have hb5 := ext_trans hb4 hs
                      have hlox15 := hb4.size
                      clear hs hb4
                      generalize W4.heap.size = Bx15 at *
                      refine wpAnyL_ready (rs := [24]) (by kernel_rfl) (by simp) ?_
                      refine AllL.cons rfl (by kernel_rfl) (fun K hK => ?_) AllL.nil
                      go_simp
                      refine (CV.out W5 p23 hb5 b23).mono ?_
                      rintro e W6 ⟨x24, rfl, o24, hs⟩
                      obtain ⟨x24a, x24c, rfl⟩ := own_isSlice o24
                      refine hK _ _ ⟨HCS.out _ (ext_trans hb5 hs), ?_⟩
                      clear hK K
                      replace b13 := (hs.block _ (box_lt b13)).trans b13
                      replace b26 := (hs.block _ (box_lt b26)).trans b26
                      replace b14 := (hs.block _ (box_lt b14)).trans b14
                      replace b23 := (hs.block _ (box_lt b23)).trans b23
                      replace o15 := own_below o15 hs
                      have hb6 := ext_trans hb5 hs
                      have hlox24 := hb5.size
                      clear hs hb5
                      generalize W5.heap.size = Bx24 at *
                      refine wpAnyL_take (T := fun _ => True) (i := 25) (v := ?vvh14x25) rfl (by kernel_rfl) (by kernel_rfl) (by kernel_rfl) (fun _ _ _ h => h) (fun _ _ => Iff.rfl) (fun _ _ _ _ _ => trivial) (Closed.of_B (by kernel_rfl)) (Or.inl ⟨by kernel_rfl, ?hyh14x25⟩) (HCS.out _ hb6) ?resth14x25
                      case hyh14x25 => (intro w _; go_simp; with_reducible rfl)
                      go_simp
                      as_aux_lemma =>
                        refine wpAnyL_ready (rs := [27]) (by kernel_rfl) (by simp) ?_
                        refine AllL.cons rfl (by kernel_rfl) (fun K hK => ?_) AllL.nil
                        have d0 := box_frozen b26 0
                        have d1 := box_frozen b26 1
                        have d2 := box_frozen b26 2
                        have e0 := box_cell b26 0
                        have e1 := box_cell b26 1
                        have e2 := box_cell b26 2
                        simp only [List.getElem?_toArray, List.getElem?_cons_zero, List.getElem?_cons_succ] at e0 e1 e2
                        go_simp
                        have hbf := ((hb6.setCell hlop26 (.slice u1a m u1c) (p := ⟨p26, 0, none⟩)).setCell hlop26 (.slice x15a (names.length + 1) x15c) (p := ⟨p26, 1, none⟩)).setCell hlop26 (.slice x24a (named.length + 1) x24c) (p := ⟨p26, 2, none⟩)
                        refine hK _ _ ⟨HCS.out _ hbf, ?_⟩
                        clear hK K
                        refine wpAnyL_done (by kernel_rfl) ?_ _
                        refine NoPanic.normal ?_
                        go_wp2
                        go_meet
                        exact ⟨p26, _, _, _, _, rfl, box3_set b26 _ _ _, names_row (own_cast (own_set3 o15 (own_box o15 b26 (by decide)) _ _ _) (by simp) rfl), RowS.of_own (own_cast (own_set3 o24 (own_box o24 b26 (by decide)) _ _ _) (by simp) rfl), hbf⟩
                  · go_simp
                    have hs := ext_alloc W2 (.cells #[.slice ma named.length mc, .slice u2a 1 u2c] 36)
                    have b23 := heap_new W2 (.cells #[.slice ma named.length mc, .slice u2a 1 u2c] 36)
                    refine hK _ _ ⟨HCS.out _ (ext_trans hb2 hs), ?_⟩
                    clear hK K
                    replace b13 := (hs.block _ (box_lt b13)).trans b13
                    replace b26 := (hs.block _ (box_lt b26)).trans b26
                    have hb3 := ext_trans hb2 hs
                    generalize W2.alloc (.cells #[.slice ma named.length mc, .slice u2a 1 u2c] 36) = W3 at *
                    have hlop23 := hb2.size
                    clear hs hb2
                    generalize W2.heap.size = p23 at *
                    refine wpAnyL_ready (rs := [14]) (by kernel_rfl) (by simp) ?_
                    refine AllL.cons rfl (by kernel_rfl) (fun K hK => ?_) AllL.nil
                    go_simp
                    have hs := ext_alloc W3 (.cells #[.slice na names.length nc, .slice (some ⟨p13, 0, none⟩) 1 1] 37)
                    have b14 := heap_new W3 (.cells #[.slice na names.length nc, .slice (some ⟨p13, 0, none⟩) 1 1] 37)
                    refine hK _ _ ⟨HCS.out _ (ext_trans hb3 hs), ?_⟩
                    clear hK K
                    replace b13 := (hs.block _ (box_lt b13)).trans b13
                    replace b26 := (hs.block _ (box_lt b26)).trans b26
                    replace b23 := (hs.block _ (box_lt b23)).trans b23
                    have hb4 := ext_trans hb3 hs
                    generalize W3.alloc (.cells #[.slice na names.length nc, .slice (some ⟨p13, 0, none⟩) 1 1] 37) = W4 at *
                    have hlop14 := hb3.size
                    clear hs hb3
                    generalize W3.heap.size = p14 at *
                    refine wpAnyL_ready (rs := [15]) (by kernel_rfl) (by simp) ?_
                    refine AllL.cons rfl (by kernel_rfl) (fun K hK => ?_) AllL.nil
                    go_simp
                    refine (CN.out W4 p13 p14 hb4 b13 b14).mono ?_
                    rintro e W5 ⟨x15, rfl, o15, hs⟩
                    obtain ⟨x15a, x15c, rfl⟩ := own_isSlice o15
                    refine hK _ _ ⟨HCS.out _ (ext_trans hb4 hs), ?_⟩
                    clear hK K
                    replace b13 := (hs.block _ (box_lt b13)).trans b13
                    replace b26 := (hs.block _ (box_lt b26)).trans b26
                    replace b23 := (hs.block _ (box_lt b23)).trans b23
                    replace b14 := (hs.block _ (box_lt b14)).trans b14
                    have hb5 := ext_trans hb4 hs
                    have hlox15 := hb4.size
                    clear hs hb4
                    generalize W4.heap.size = Bx15 at *
                    refine wpAnyL_ready (rs := [24]) (by kernel_rfl) (by simp) ?_
                    refine AllL.cons rfl (by kernel_rfl) (fun K hK => ?_) AllL.nil
                    go_simp
                    refine (CV.out W5 p23 hb5 b23).mono ?_
                    rintro e W6 ⟨x24, rfl, o24, hs⟩
                    obtain ⟨x24a, x24c, rfl⟩ := own_isSlice o24
                    refine hK _ _ ⟨HCS.out _ (ext_trans hb5 hs), ?_⟩
                    clear hK K
                    replace b13 := (hs.block _ (box_lt b13)).trans b13
                    replace b26 := (hs.block _ (box_lt b26)).trans b26
                    replace b23 := (hs.block _ (box_lt b23)).trans b23
                    replace b14 := (hs.block _ (box_lt b14)).trans b14
                    replace o15 := own_below o15 hs
                    have hb6 := ext_trans hb5 hs
                    have hlox24 := hb5.size
                    clear hs hb5
                    generalize W5.heap.size = Bx24 at *
                    refine wpAnyL_take (T := fun _ => True) (i := 25) (v := ?vvh15x25) rfl (by kernel_rfl) (by kernel_rfl) (by kernel_rfl) (fun _ _ _ h => h) (fun _ _ => Iff.rfl) (fun _ _ _ _ _ => trivial) (Closed.of_B (by kernel_rfl)) (Or.inl ⟨by kernel_rfl, ?hyh15x25⟩) (HCS.out _ hb6) ?resth15x25
                    case hyh15x25 => (intro w _; go_simp; with_reducible rfl)
                    go_simp
                    as_aux_lemma =>
                      refine wpAnyL_ready (rs := [27]) (by kernel_rfl) (by simp) ?_
                      refine AllL.cons rfl (by kernel_rfl) (fun K hK => ?_) AllL.nil
                      have d0 := box_frozen b26 0
                      have d1 := box_frozen b26 1
                      have d2 := box_frozen b26 2
                      have e0 := box_cell b26 0
                      have e1 := box_cell b26 1
                      have e2 := box_cell b26 2
                      simp only [List.getElem?_toArray, List.getElem?_cons_zero, List.getElem?_cons_succ] at e0 e1 e2
                      go_simp
                      have hbf := ((hb6.setCell hlop26 (.slice u1a m u1c) (p := ⟨p26, 0, none⟩)).setCell hlop26 (.slice x15a (names.length + 1) x15c) (p := ⟨p26, 1, none⟩)).setCell hlop26 (.slice x24a (named.length + 1) x24c) (p := ⟨p26, 2, none⟩)
                      refine hK _ _ ⟨HCS.out _ hbf, ?_⟩
                      clear hK K
                      refine wpAnyL_done (by kernel_rfl) ?_ _
                      refine NoPanic.normal ?_
                      go_wp2
                      go_meet
                      exact ⟨p26, _, _, _, _, rfl, box3_set b26 _ _ _, names_row (own_cast (own_set3 o15 (own_box o15 b26 (by decide)) _ _ _) (by simp) rfl), RowS.of_own (own_cast (own_set3 o24 (own_box o24 b26 (by decide)) _ _ _) (by simp) rfl), hbf⟩
              · go_simp
                have hs := ext_alloc W0 (.cells #[.slice ma named.length mc, .slice u2a 1 u2c] 36)
                have b23 := heap_new W0 (.cells #[.slice ma named.length mc, .slice u2a 1 u2c] 36)
                refine hK _ _ ⟨HCS.out _ (ext_trans hb0 hs), ?_⟩
                clear hK K
                have hb1 := ext_trans hb0 hs
                generalize W0.alloc (.cells #[.slice ma named.length mc, .slice u2a 1 u2c] 36) = W1 at *
                have hlop23 := hb0.size
                clear hs hb0
                generalize W0.heap.size = p23 at *
                refine wpAnyL_ready (rs := [13, 26]) (by kernel_rfl) (by simp) ?_
                refine AllL.cons rfl (by kernel_rfl) (fun K hK => ?_) (AllL.cons rfl (by kernel_rfl) (fun K hK => ?_) AllL.nil)
                · go_simp
                  have hs := ext_alloc W1 (.cells #[.string nm] 9)
                  have b13 := heap_new W1 (.cells #[.string nm] 9)
                  refine hK _ _ ⟨HCS.out _ (ext_trans hb1 hs), ?_⟩
                  clear hK K
                  replace b23 := (hs.block _ (box_lt b23)).trans b23
                  have hb2 := ext_trans hb1 hs
                  generalize W1.alloc (.cells #[.string nm] 9) = W2 at *
                  have hlop13 := hb1.size
                  clear hs hb1
                  generalize W1.heap.size = p13 at *
                  refine wpAnyL_ready (rs := [14, 26]) (by kernel_rfl) (by simp) ?_
                  refine AllL.cons rfl (by kernel_rfl) (fun K hK => ?_) (AllL.cons rfl (by kernel_rfl) (fun K hK => ?_) AllL.nil)
                  · go_simp
                    have hs := ext_alloc W2 (.cells #[.slice na names.length nc, .slice (some ⟨p13, 0, none⟩) 1 1] 37)
                    have b14 := heap_new W2 (.cells #[.slice na names.length nc, .slice (some ⟨p13, 0, none⟩) 1 1] 37)
                    refine hK _ _ ⟨HCS.out _ (ext_trans hb2 hs), ?_⟩
                    clear hK K
                    replace b23 := (hs.block _ (box_lt b23)).trans b23
                    replace b13 := (hs.block _ (box_lt b13)).trans b13
                    have hb3 := ext_trans hb2 hs
                    generalize W2.alloc (.cells #[.slice na names.length nc, .slice (some ⟨p13, 0, none⟩) 1 1] 37) = W3 at *
                    have hlop14 := hb2.size
                    clear hs hb2
                    generalize W2.heap.size = p14 at *
                    refine wpAnyL_ready (rs := [15, 26]) (by kernel_rfl) (by simp) ?_
                    refine AllL.cons rfl (by kernel_rfl) (fun K hK => ?_) (AllL.cons rfl (by kernel_rfl) (fun K hK => ?_) AllL.nil)
                    · go_simp
                      refine (CN.out W3 p13 p14 hb3 b13 b14).mono ?_
                      rintro e W4 ⟨x15, rfl, o15, hs⟩
                      obtain ⟨x15a, x15c, rfl⟩ := own_isSlice o15
                      refine hK _ _ ⟨HCS.out _ (ext_trans hb3 hs), ?_⟩
                      clear hK K
                      replace b23 := (hs.block _ (box_lt b23)).trans b23
                      replace b13 := (hs.block _ (box_lt b13)).trans b13
                      replace b14 := (hs.block _ (box_lt b14)).trans b14
                      have hb4 := ext_trans hb3 hs
                      have hlox15 := hb3.size
                      clear hs hb3
                      generalize W3.heap.size = Bx15 at *
                      refine wpAnyL_ready (rs := [24, 26]) (by kernel_rfl) (by simp) ?_
                      refine AllL.cons rfl (by kernel_rfl) (fun K hK => ?_) (AllL.cons rfl (by kernel_rfl) (fun K hK => ?_) AllL.nil)
                      · go_simp
                        refine (CV.out W4 p23 hb4 b23).mono ?_
                        rintro e W5 ⟨x24, rfl, o24, hs⟩
                        obtain ⟨x24a, x24c, rfl⟩ := own_isSlice o24
                        refine hK _ _ ⟨HCS.out _ (ext_trans hb4 hs), ?_⟩
                        clear hK K
                        replace b23 := (hs.block _ (box_lt b23)).trans b23
                        replace b13 := (hs.block _ (box_lt b13)).trans b13
                        replace b14 := (hs.block _ (box_lt b14)).trans b14
                        replace o15 := own_below o15 hs
                        have hb5 := ext_trans hb4 hs
                        have hlox24 := hb4.size
                        clear hs hb4
                        generalize W4.heap.size = Bx24 at *
                        refine wpAnyL_take (T := fun _ => True) (i := 25) (v := ?vvh16x25) rfl (by kernel_rfl) (by kernel_rfl) (by kernel_rfl) (fun _ _ _ h => h) (fun _ _ => Iff.rfl) (fun _ _ _ _ _ => trivial) (Closed.of_B (by kernel_rfl)) (Or.inl ⟨by kernel_rfl, ?hyh16x25⟩) (HCS.out _ hb5) ?resth16x25
                        case hyh16x25 => (intro w _; go_simp; with_reducible rfl)
                        go_simp
                        refine wpAnyL_ready (rs := [26]) (by kernel_rfl) (by simp) ?_
                        refine AllL.cons rfl (by kernel_rfl) (fun K hK => ?_) AllL.nil
                        go_simp
                        have hs := ext_alloc W5 (.cells #[.slice none 0 0, .slice none 0 0, .slice none 0 0] 39)
                        have b26 := heap_new W5 (.cells #[.slice none 0 0, .slice none 0 0, .slice none 0 0] 39)
                        refine hK _ _ ⟨HCS.out _ (ext_trans hb5 hs), ?_⟩
                        clear hK K
                        replace b23 := (hs.block _ (box_lt b23)).trans b23
                        replace b13 := (hs.block _ (box_lt b13)).trans b13
                        replace b14 := (hs.block _ (box_lt b14)).trans b14
                        replace o15 := own_below o15 hs
                        replace o24 := own_below o24 hs
                        have hb6 := ext_trans hb5 hs
                        generalize W5.alloc (.cells #[.slice none 0 0, .slice none 0 0, .slice none 0 0] 39) = W6 at *
                        have hlop26 := hb5.size
                        clear hs hb5
                        generalize W5.heap.size = p26 at *
                        as_aux_lemma =>
                          refine wpAnyL_ready (rs := [27]) (by kernel_rfl) (by simp) ?_
                          refine AllL.cons rfl (by kernel_rfl) (fun K hK => ?_) AllL.nil
                          have d0 := box_frozen b26 0
                          have d1 := box_frozen b26 1
                          have d2 := box_frozen b26 2
                          have e0 := box_cell b26 0
                          have e1 := box_cell b26 1
                          have e2 := box_cell b26 2
                          simp only [List.getElem?_toArray, List.getElem?_cons_zero, List.getElem?_cons_succ] at e0 e1 e2
                          go_simp
                          have hbf := ((hb6.setCell hlop26 (.slice u1a m u1c) (p := ⟨p26, 0, none⟩)).setCell hlop26 (.slice x15a (names.length + 1) x15c) (p := ⟨p26, 1, none⟩)).setCell hlop26 (.slice x24a (named.length + 1) x24c) (p := ⟨p26, 2, none⟩)
                          refine hK _ _ ⟨HCS.out _ hbf, ?_⟩
                          clear hK K
                          refine wpAnyL_done (by kernel_rfl) ?_ _
                          refine NoPanic.normal ?_
                          go_wp2
                          go_meet
                          exact ⟨p26, _, _, _, _, rfl, box3_set b26 _ _ _, names_row (own_cast (own_set3 o15 (own_box o15 b26 (by decide)) _ _ _) (by simp) rfl), RowS.of_own (own_cast (own_set3 o24 (own_box o24 b26 (by decide)) _ _ _) (by simp) rfl), hbf⟩
                      · go_simp
                        have hs := ext_alloc W4 (.cells #[.slice none 0 0, .slice none 0 0, .slice none 0 0] 39)
                        have b26 := heap_new W4 (.cells #[.slice none 0 0, .slice none 0 0, .slice none 0 0] 39)
                        refine hK _ _ ⟨HCS.out _ (ext_trans hb4 hs), ?_⟩
                        clear hK K
                        replace b23 := (hs.block _ (box_lt b23)).trans b23
                        replace b13 := (hs.block _ (box_lt b13)).trans b13
                        replace b14 := (hs.block _ (box_lt b14)).trans b14
                        replace o15 := own_below o15 hs
                        have hb5 := ext_trans hb4 hs
                        generalize W4.alloc (.cells #[.slice none 0 0, .slice none 0 0, .slice none 0 0] 39) = W5 at *
                        have hlop26 := hb4.size
                        clear hs hb4
                        generalize W4.heap.size = p26 at *
                        refine wpAnyL_ready (rs := [24]) (by kernel_rfl) (by simp) ?_
                        refine AllL.cons rfl (by kernel_rfl) (fun K hK => ?_) AllL.nil
                        go_simp
                        refine (CV.out W5 p23 hb5 b23).mono ?_
                        rintro e W6 ⟨x24, rfl, o24, hs⟩
                        obtain ⟨x24a, x24c, rfl⟩ := own_isSlice o24
                        refine hK _ _ ⟨HCS.out _ (ext_trans hb5 hs), ?_⟩
                        clear hK K
                        replace b23 := (hs.block _ (box_lt b23)).trans b23
                        replace b13 := (hs.block _ (box_lt b13)).trans b13
                        replace b14 := (hs.block _ (box_lt b14)).trans b14
                        replace b26 := (hs.block _ (box_lt b26)).trans b26
                        replace o15 := own_below o15 hs
                        have hb6 := ext_trans hb5 hs
                        have hlox24 := hb5.size
                        clear hs hb5
                        generalize W5.heap.size = Bx24 at *
                        refine wpAnyL_take (T := fun _ => True) (i := 25) (v := ?vvh17x25) rfl (by kernel_rfl) (by kernel_rfl) (by kernel_rfl) (fun _ _ _ h => h) (fun _ _ => Iff.rfl) (fun _ _ _ _ _ => trivial) (Closed.of_B (by kernel_rfl)) (Or.inl ⟨by kernel_rfl, ?hyh17x25⟩) (HCS.out _ hb6) ?resth17x25
                        case hyh17x25 => (intro w _; go_simp; with_reducible rfl)
                        go_simp
                        as_aux_lemma =>
                          refine wpAnyL_ready (rs := [27]) (by kernel_rfl) (by simp) ?_
                          refine AllL.cons rfl (by kernel_rfl) (fun K hK => ?_) AllL.nil
                          have d0 := box_frozen b26 0
                          have d1 := box_frozen b26 1
                          have d2 := box_frozen b26 2
                          have e0 := box_cell b26 0
                          have e1 := box_cell b26 1
                          have e2 := box_cell b26 2
                          simp only [List.getElem?_toArray, List.getElem?_cons_zero, List.getElem?_cons_succ] at e0 e1 e2
                          go_simp
                          have hbf := ((hb6.setCell hlop26 (.slice u1a m u1c) (p := ⟨p26, 0, none⟩)).setCell hlop26 (.slice x15a (names.length + 1) x15c) (p := ⟨p26, 1, none⟩)).setCell hlop26 (.slice x24a (named.length + 1) x24c) (p := ⟨p26, 2, none⟩)
                          refine hK _ _ ⟨HCS.out _ hbf, ?_⟩
                          clear hK K
                          refine wpAnyL_done (by kernel_rfl) ?_ _
                          refine NoPanic.normal ?_
                          go_wp2
                          go_meet
                          exact ⟨p26, _, _, _, _, rfl, box3_set b26 _ _ _, names_row (own_cast (own_set3 o15 (own_box o15 b26 (by decide)) _ _ _) (by simp) rfl), RowS.of_own (own_cast (own_set3 o24 (own_box o24 b26 (by decide)) _ _ _) (by simp) rfl), hbf⟩
                    · go_simp
                      have hs := ext_alloc W3 (.cells #[.slice none 0 0, .slice none 0 0, .slice none 0 0] 39)
                      have b26 := heap_new W3 (.cells #[.slice none 0 0, .slice none 0 0, .slice none 0 0] 39)
                      refine hK _ _ ⟨HCS.out _ (ext_trans hb3 hs), ?_⟩
                      clear hK K
                      replace b23 := (hs.block _ (box_lt b23)).trans b23
                      replace b13 := (hs.block _ (box_lt b13)).trans b13
                      replace b14 := (hs.block _ (box_lt b14)).trans b14
                      have hb4 := ext_trans hb3 hs
                      generalize W3.alloc (.cells #[.slice none 0 0, .slice none 0 0, .slice none 0 0] 39) = W4 at *
                      have hlop26 := hb3.size
                      clear hs hb3
                      generalize W3.heap.size = p26 at *
                      refine wpAnyL_ready (rs := [15]) (by kernel_rfl) (by simp) ?_
                      refine AllL.cons rfl (by kernel_rfl) (fun K hK => ?_) AllL.nil
                      go_simp
                      refine (CN.out W4 p13 p14 hb4 b13 b14).mono ?_
                      rintro e W5 ⟨x15, rfl, o15, hs⟩
                      obtain ⟨x15a, x15c, rfl⟩ := own_isSlice o15
                      refine hK _ _ ⟨HCS.out _ (ext_trans hb4 hs), ?_⟩
                      clear hK K
                      replace b23 := (hs.block _ (box_lt b23)).trans b23
                      replace b13 := (hs.block _ (box_lt b13)).trans b13
                      replace b14 := (hs.block _ (box_lt b14)).trans b14
                      replace b26 := (hs.block _ (box_lt b26)).trans b26
                      have hb5 := ext_trans hb4 hs
                      have hlox15 := hb4.size
                      clear hs hb4
                      generalize W4.heap.size = Bx15 at *
                      refine wpAnyL_ready (rs := [24]) (by kernel_rfl) (by simp) ?_
                      refine AllL.cons rfl (by kernel_rfl) (fun K hK => ?_) AllL.nil
                      go_simp
                      refine (CV.out W5 p23 hb5 b23).mono ?_
                      rintro e W6 ⟨x24, rfl, o24, hs⟩
                      obtain ⟨x24a, x24c, rfl⟩ := own_isSlice o24
                      refine hK _ _ ⟨HCS.out _ (ext_trans hb5 hs), ?_⟩
                      clear hK K
                      replace b23 := (hs.block _ (box_lt b23)).trans b23
                      replace b13 := (hs.block _ (box_lt b13)).trans b13
                      replace b14 := (hs.block _ (box_lt b14)).trans b14
                      replace b26 := (hs.block _ (box_lt b26)).trans b26
                      replace o15 := own_below o15 hs
                      have hb6 := ext_trans hb5 hs
                      have hlox24 := hb5.size
                      clear hs hb5
                      generalize W5.heap.size = Bx24 at *
                      refine wpAnyL_take (T := fun _ => True) (i := 25) (v := ?vvh18x25) rfl (by kernel_rfl) (by kernel_rfl) (by kernel_rfl) (fun _ _ _ h => h) (fun _ _ => Iff.rfl) (fun _ _ _ _ _ => trivial) (Closed.of_B (by kernel_rfl)) (Or.inl ⟨by kernel_rfl, ?hyh18x25⟩) (HCS.out _ hb6) ?resth18x25
                      case hyh18x25 => (intro w _; go_simp; with_reducible rfl)
                      go_simp
                      as_aux_lemma =>
                        refine wpAnyL_ready (rs := [27]) (by kernel_rfl) (by simp) ?_
                        refine AllL.cons rfl (by kernel_rfl) (fun K hK => ?_) AllL.nil
                        have d0 := box_frozen b26 0
                        have d1 := box_frozen b26 1
                        have d2 := box_frozen b26 2
                        have e0 := box_cell b26 0
                        have e1 := box_cell b26 1
                        have e2 := box_cell b26 2
                        simp only [List.getElem?_toArray, List.getElem?_cons_zero, List.getElem?_cons_succ] at e0 e1 e2
                        go_simp
                        have hbf := ((hb6.setCell hlop26 (.slice u1a m u1c) (p := ⟨p26, 0, none⟩)).setCell hlop26 (.slice x15a (names.length + 1) x15c) (p := ⟨p26, 1, none⟩)).setCell hlop26 (.slice x24a (named.length + 1) x24c) (p := ⟨p26, 2, none⟩)
                        refine hK _ _ ⟨HCS.out _ hbf, ?_⟩
                        clear hK K
                        refine wpAnyL_done (by kernel_rfl) ?_ _
                        refine NoPanic.normal ?_
                        go_wp2
                        go_meet
                        exact ⟨p26, _, _, _, _, rfl, box3_set b26 _ _ _, names_row (own_cast (own_set3 o15 (own_box o15 b26 (by decide)) _ _ _) (by simp) rfl), RowS.of_own (own_cast (own_set3 o24 (own_box o24 b26 (by decide)) _ _ _) (by simp) rfl), hbf⟩
                  · go_simp
                    have hs := ext_alloc W2 (.cells #[.slice none 0 0, .slice none 0 0, .slice none 0 0] 39)
                    have b26 := heap_new W2 (.cells #[.slice none 0 0, .slice none 0 0, .slice none 0 0] 39)
                    refine hK _ _ ⟨HCS.out _ (ext_trans hb2 hs), ?_⟩
                    clear hK K
                    replace b23 := (hs.block _ (box_lt b23)).trans b23
                    replace b13 := (hs.block _ (box_lt b13)).trans b13
                    have hb3 := ext_trans hb2 hs
                    generalize W2.alloc (.cells #[.slice none 0 0, .slice none 0 0, .slice none 0 0] 39) = W3 at *
                    have hlop26 := hb2.size
                    clear hs hb2
                    generalize W2.heap.size = p26 at *
                    refine wpAnyL_ready (rs := [14]) (by kernel_rfl) (by simp) ?_
                    refine AllL.cons rfl (by kernel_rfl) (fun K hK => ?_) AllL.nil
                    go_simp
                    have hs := ext_alloc W3 (.cells #[.slice na names.length nc, .slice (some ⟨p13, 0, none⟩) 1 1] 37)
                    have b14 := heap_new W3 (.cells #[.slice na names.length nc, .slice (some ⟨p13, 0, none⟩) 1 1] 37)
                    refine hK _ _ ⟨HCS.out _ (ext_trans hb3 hs), ?_⟩
                    clear hK K
                    replace b23 := (hs.block _ (box_lt b23)).trans b23
                    replace b13 := (hs.block _ (box_lt b13)).trans b13
                    replace b26 := (hs.block _ (box_lt b26)).trans b26
                    have hb4 := ext_trans hb3 hs
                    generalize W3.alloc (.cells #[.slice na names.length nc, .slice (some ⟨p13, 0, none⟩) 1 1] 37) = W4 at *
                    have hlop14 := hb3.size
                    clear hs hb3
                    generalize W3.heap.size = p14 at *
                    refine wpAnyL_ready (rs := [15]) (by kernel_rfl) (by simp) ?_
                    refine AllL.cons rfl (by kernel_rfl) (fun K hK => ?_) AllL.nil
                    go_simp
                    refine (CN.out W4 p13 p14 hb4 b13 b14).mono ?_
                    rintro e W5 ⟨x15, rfl, o15, hs⟩
                    obtain ⟨x15a, x15c, rfl⟩ := own_isSlice o15
                    refine hK _ _ ⟨HCS.out _ (ext_trans hb4 hs), ?_⟩
                    clear hK K
                    replace b23 := (hs.block _ (box_lt b23)).trans b23
                    replace b13 := (hs.block _ (box_lt b13)).trans b13
                    replace b26 := (hs.block _ (box_lt b26)).trans b26
                    replace b14 := (hs.block _ (box_lt b14)).trans b14
                    have hb5 := ext_trans hb4 hs
                    have hlox15 := hb4.size
                    clear hs hb4
                    generalize W4.heap.size = Bx15 at *
                    refine wpAnyL_ready (rs := [24]) (by kernel_rfl) (by simp) ?_
                    refine AllL.cons rfl (by kernel_rfl) (fun K hK => ?_) AllL.nil
                    go_simp
                    refine (CV.out W5 p23 hb5 b23).mono ?_
                    rintro e W6 ⟨x24, rfl, o24, hs⟩
                    obtain ⟨x24a, x24c, rfl⟩ := own_isSlice o24
                    refine hK _ _ ⟨HCS.out _ (ext_trans hb5 hs), ?_⟩
                    clear hK K
                    replace b23 := (hs.block _ (box_lt b23)).trans b23
                    replace b13 := (hs.block _ (box_lt b13)).trans b13
                    replace b26 := (hs.block _ (box_lt b26)).trans b26
                    replace b14 := (hs.block _ (box_lt b14)).trans b14
                    replace o15 := own_below o15 hs
                    have hb6 := ext_trans hb5 hs
                    have hlox24 := hb5.size
                    clear hs hb5
                    generalize W5.heap.size = Bx24 at *
                    refine wpAnyL_take (T := fun _ => True) (i := 25) (v := ?vvh19x25) rfl (by kernel_rfl) (by kernel_rfl) (by kernel_rfl) (fun _ _ _ h => h) (fun _ _ => Iff.rfl) (fun _ _ _ _ _ => trivial) (Closed.of_B (by kernel_rfl)) (Or.inl ⟨by kernel_rfl, ?hyh19x25⟩) (HCS.out _ hb6) ?resth19x25
                    case hyh19x25 => (intro w _; go_simp; with_reducible rfl)
                    go_simp
                    as_aux_lemma =>
                      refine wpAnyL_ready (rs := [27]) (by kernel_rfl) (by simp) ?_
                      refine AllL.cons rfl (by kernel_rfl) (fun K hK => ?_) AllL.nil
                      have d0 := box_frozen b26 0
                      have d1 := box_frozen b26 1
                      have d2 := box_frozen b26 2
                      have e0 := box_cell b26 0
                      have e1 := box_cell b26 1
                      have e2 := box_cell b26 2
                      simp only [List.getElem?_toArray, List.getElem?_cons_zero, List.getElem?_cons_succ] at e0 e1 e2
                      go_simp
                      have hbf := ((hb6.setCell hlop26 (.slice u1a m u1c) (p := ⟨p26, 0, none⟩)).setCell hlop26 (.slice x15a (names.length + 1) x15c) (p := ⟨p26, 1, none⟩)).setCell hlop26 (.slice x24a (named.length + 1) x24c) (p := ⟨p26, 2, none⟩)
                      refine hK _ _ ⟨HCS.out _ hbf, ?_⟩
                      clear hK K
                      refine wpAnyL_done (by kernel_rfl) ?_ _
                      refine NoPanic.normal ?_
                      go_wp2
                      go_meet
                      exact ⟨p26, _, _, _, _, rfl, box3_set b26 _ _ _, names_row (own_cast (own_set3 o15 (own_box o15 b26 (by decide)) _ _ _) (by simp) rfl), RowS.of_own (own_cast (own_set3 o24 (own_box o24 b26 (by decide)) _ _ _) (by simp) rfl), hbf⟩
                · go_simp
                  have hs := ext_alloc W1 (.cells #[.slice none 0 0, .slice none 0 0, .slice none 0 0] 39)
                  have b26 := heap_new W1 (.cells #[.slice none 0 0, .slice none 0 0, .slice none 0 0] 39)
                  refine hK _ _ ⟨HCS.out _ (ext_trans hb1 hs), ?_⟩
                  clear hK K
                  replace b23 := (hs.block _ (box_lt b23)).trans b23
                  have hb2 := ext_trans hb1 hs
                  generalize W1.alloc (.cells #[.slice none 0 0, .slice none 0 0, .slice none 0 0] 39) = W2 at *
                  have hlop26 := hb1.size
                  clear hs hb1
                  generalize W1.heap.size = p26 at *
                  refine wpAnyL_ready (rs := [13]) (by kernel_rfl) (by simp) ?_
                  refine AllL.cons rfl (by kernel_rfl) (fun K hK => ?_) AllL.nil
                  go_simp
                  have hs := ext_alloc W2 (.cells #[.string nm] 9)
                  have b13 := heap_new W2 (.cells #[.string nm] 9)
                  refine hK _ _ ⟨HCS.out _ (ext_trans hb2 hs), ?_⟩
                  clear hK K
                  replace b23 := (hs.block _ (box_lt b23)).trans b23
                  replace b26 := (hs.block _ (box_lt b26)).trans b26
                  have hb3 := ext_trans hb2 hs
                  generalize W2.alloc (.cells #[.string nm] 9) = W3 at *
                  have hlop13 := hb2.size
                  clear hs hb2
                  generalize W2.heap.size = p13 at *
                  refine wpAnyL_ready (rs := [14]) (by kernel_rfl) (by simp) ?_
                  refine AllL.cons rfl (by kernel_rfl) (fun K hK => ?_) AllL.nil
                  go_simp
                  have hs := ext_alloc W3 (.cells #[.slice na names.length nc, .slice (some ⟨p13, 0, none⟩) 1 1] 37)
                  have b14 := heap_new W3 (.cells #[.slice na names.length nc, .slice (some ⟨p13, 0, none⟩) 1 1] 37)
                  refine hK _ _ ⟨HCS.out _ (ext_trans hb3 hs), ?_⟩
                  clear hK K
                  replace b23 := (hs.block _ (box_lt b23)).trans b23
                  replace b26 := (hs.block _ (box_lt b26)).trans b26
                  replace b13 := (hs.block _ (box_lt b13)).trans b13
                  have hb4 := ext_trans hb3 hs
                  generalize W3.alloc (.cells #[.slice na names.length nc, .slice (some ⟨p13, 0, none⟩) 1 1] 37) = W4 at *
                  have hlop14 := hb3.size
                  clear hs hb3
                  generalize W3.heap.size = p14 at *
                  refine wpAnyL_ready (rs := [15]) (by kernel_rfl) (by simp) ?_
                  refine AllL.cons rfl (by kernel_rfl) (fun K hK => ?_) AllL.nil
                  go_simp
                  refine (CN.out W4 p13 p14 hb4 b13 b14).mono ?_
                  rintro e W5 ⟨x15, rfl, o15, hs⟩
                  obtain ⟨x15a, x15c, rfl⟩ := own_isSlice o15
                  refine hK _ _ ⟨HCS.out _ (ext_trans hb4 hs), ?_⟩
                  clear hK K
                  replace b23 := (hs.block _ (box_lt b23)).trans b23
                  replace b26 := (hs.block _ (box_lt b26)).trans b26
                  replace b13 := (hs.block _ (box_lt b13)).trans b13
                  replace b14 := (hs.block _ (box_lt b14)).trans b14
                  have hb5 := ext_trans hb4 hs
                  have hlox15 := hb4.size
                  clear hs hb4
                  generalize W4.heap.size = Bx15 at *
                  refine wpAnyL_ready (rs := [24]) (by kernel_rfl) (by simp) ?_
                  refine AllL.cons rfl (by kernel_rfl) (fun K hK => ?_) AllL.nil
                  go_simp
                  refine (CV.out W5 p23 hb5 b23).mono ?_
                  rintro e W6 ⟨x24, rfl, o24, hs⟩
                  obtain ⟨x24a, x24c, rfl⟩ := own_isSlice o24
                  refine hK _ _ ⟨HCS.out _ (ext_trans hb5 hs), ?_⟩
                  clear hK K
                  replace b23 := (hs.block _ (box_lt b23)).trans b23
                  replace b26 := (hs.block _ (box_lt b26)).trans b26
                  replace b13 := (hs.block _ (box_lt b13)).trans b13
                  replace b14 := (hs.block _ (box_lt b14)).trans b14
                  replace o15 := own_below o15 hs
                  have hb6 := ext_trans hb5 hs
                  have hlox24 := hb5.size
                  clear hs hb5
                  generalize W5.heap.size = Bx24 at *
                  refine wpAnyL_take (T := fun _ => True) (i := 25) (v := ?vvh20x25) rfl (by kernel_rfl) (by kernel_rfl) (by kernel_rfl) (fun _ _ _ h => h) (fun _ _ => Iff.rfl) (fun _ _ _ _ _ => trivial) (Closed.of_B (by kernel_rfl)) (Or.inl ⟨by kernel_rfl, ?hyh20x25⟩) (HCS.out _ hb6) ?resth20x25
                  case hyh20x25 => (intro w _; go_simp; with_reducible rfl)
                  go_simp
                  as_aux_lemma =>
                    refine wpAnyL_ready (rs := [27]) (by kernel_rfl) (by simp) ?_
                    refine AllL.cons rfl (by kernel_rfl) (fun K hK => ?_) AllL.nil
                    have d0 := box_frozen b26 0
                    have d1 := box_frozen b26 1
                    have d2 := box_frozen b26 2
                    have e0 := box_cell b26 0
                    have e1 := box_cell b26 1
                    have e2 := box_cell b26 2
                    simp only [List.getElem?_toArray, List.getElem?_cons_zero, List.getElem?_cons_succ] at e0 e1 e2
                    go_simp
                    have hbf := ((hb6.setCell hlop26 (.slice u1a m u1c) (p := ⟨p26, 0, none⟩)).setCell hlop26 (.slice x15a (names.length + 1) x15c) (p := ⟨p26, 1, none⟩)).setCell hlop26 (.slice x24a (named.length + 1) x24c) (p := ⟨p26, 2, none⟩)
                    refine hK _ _ ⟨HCS.out _ hbf, ?_⟩
                    clear hK K
                    refine wpAnyL_done (by kernel_rfl) ?_ _
                    refine NoPanic.normal ?_
                    go_wp2
                    go_meet
                    exact ⟨p26, _, _, _, _, rfl, box3_set b26 _ _ _, names_row (own_cast (own_set3 o15 (own_box o15 b26 (by decide)) _ _ _) (by simp) rfl), RowS.of_own (own_cast (own_set3 o24 (own_box o24 b26 (by decide)) _ _ _) (by simp) rfl), hbf⟩
              · go_simp
                have hs := ext_alloc W0 (.cells #[.slice none 0 0, .slice none 0 0, .slice none 0 0] 39)
                have b26 := heap_new W0 (.cells #[.slice none 0 0, .slice none 0 0, .slice none 0 0] 39)
                refine hK _ _ ⟨HCS.out _ (ext_trans hb0 hs), ?_⟩
                clear hK K
                have hb1 := ext_trans hb0 hs
                generalize W0.alloc (.cells #[.slice none 0 0, .slice none 0 0, .slice none 0 0] 39) = W1 at *
                have hlop26 := hb0.size
                clear hs hb0
                generalize W0.heap.size = p26 at *
                refine wpAnyL_ready (rs := [13, 23]) (by kernel_rfl) (by simp) ?_
                refine AllL.cons rfl (by kernel_rfl) (fun K hK => ?_) (AllL.cons rfl (by kernel_rfl) (fun K hK => ?_) AllL.nil)
                · go_simp
                  have hs := ext_alloc W1 (.cells #[.string nm] 9)
                  have b13 := heap_new W1 (.cells #[.string nm] 9)
                  refine hK _ _ ⟨HCS.out _ (ext_trans hb1 hs), ?_⟩
                  clear hK K
                  replace b26 := (hs.block _ (box_lt b26)).trans b26
                  have hb2 := ext_trans hb1 hs
                  generalize W1.alloc (.cells #[.string nm] 9) = W2 at *
                  have hlop13 := hb1.size
                  clear hs hb1
                  generalize W1.heap.size = p13 at *
                  refine wpAnyL_ready (rs := [14, 23]) (by kernel_rfl) (by simp) ?_
                  refine AllL.cons rfl (by kernel_rfl) (fun K hK => ?_) (AllL.cons rfl (by kernel_rfl) (fun K hK => ?_) AllL.nil)
                  · go_simp
                    have hs := ext_alloc W2 (.cells #[.slice na names.length nc, .slice (some ⟨p13, 0, none⟩) 1 1] 37)
                    have b14 := heap_new W2 (.cells #[.slice na names.length nc, .slice (some ⟨p13, 0, none⟩) 1 1] 37)
                    refine hK _ _ ⟨HCS.out _ (ext_trans hb2 hs), ?_⟩
                    clear hK K
                    replace b26 := (hs.block _ (box_lt b26)).trans b26
                    replace b13 := (hs.block _ (box_lt b13)).trans b13
                    have hb3 := ext_trans hb2 hs
                    generalize W2.alloc (.cells #[.slice na names.length nc, .slice (some ⟨p13, 0, none⟩) 1 1] 37) = W3 at *
                    have hlop14 := hb2.size
                    clear hs hb2
                    generalize W2.heap.size = p14 at *
                    refine wpAnyL_ready (rs := [15, 23]) (by kernel_rfl) (by simp) ?_
                    refine AllL.cons rfl (by kernel_rfl) (fun K hK => ?_) (AllL.cons rfl (by kernel_rfl) (fun K hK => ?_) AllL.nil)
                    · go_simp
                      refine (CN.out W3 p13 p14 hb3 b13 b14).mono ?_
                      rintro e W4 ⟨x15, rfl, o15, hs⟩
                      obtain ⟨x15a, x15c, rfl⟩ := own_isSlice o15
                      refine hK _ _ ⟨HCS.out _ (ext_trans hb3 hs), ?_⟩
                      clear hK K
                      replace b26 := (hs.block _ (box_lt b26)).trans b26
                      replace b13 := (hs.block _ (box_lt b13)).trans b13
                      replace b14 := (hs.block _ (box_lt b14)).trans b14
                      have hb4 := ext_trans hb3 hs
                      have hlox15 := hb3.size
                      clear hs hb3
                      generalize W3.heap.size = Bx15 at *
                      refine wpAnyL_ready (rs := [23]) (by kernel_rfl) (by simp) ?_
                      refine AllL.cons rfl (by kernel_rfl) (fun K hK => ?_) AllL.nil
                      go_simp
                      have hs := ext_alloc W4 (.cells #[.slice ma named.length mc, .slice u2a 1 u2c] 36)
                      have b23 := heap_new W4 (.cells #[.slice ma named.length mc, .slice u2a 1 u2c] 36)
                      refine hK _ _ ⟨HCS.out _ (ext_trans hb4 hs), ?_⟩
                      clear hK K
                      replace b26 := (hs.block _ (box_lt b26)).trans b26
                      replace b13 := (hs.block _ (box_lt b13)).trans b13
                      replace b14 := (hs.block _ (box_lt b14)).trans b14
                      replace o15 := own_below o15 hs
                      have hb5 := ext_trans hb4 hs
                      generalize W4.alloc (.cells #[.slice ma named.length mc, .slice u2a 1 u2c] 36) = W5 at *
                      have hlop23 := hb4.size
                      clear hs hb4
                      generalize W4.heap.size = p23 at *
                      refine wpAnyL_ready (rs := [24]) (by kernel_rfl) (by simp) ?_
                      refine AllL.cons rfl (by kernel_rfl) (fun K hK => ?_) AllL.nil
                      go_simp
                      refine (CV.out W5 p23 hb5 b23).mono ?_
                      rintro e W6 ⟨x24, rfl, o24, hs⟩
                      obtain ⟨x24a, x24c, rfl⟩ := own_isSlice o24
                      refine hK _ _ ⟨HCS.out _ (ext_trans hb5 hs), ?_⟩
                      clear hK K
                      replace b26 := (hs.block _ (box_lt b26)).trans b26
                      replace b13 := (hs.block _ (box_lt b13)).trans b13
                      replace b14 := (hs.block _ (box_lt b14)).trans b14
                      replace b23 := (hs.block _ (box_lt b23)).trans b23
                      replace o15 := own_below o15 hs
                      have hb6 := ext_trans hb5 hs
                      have hlox24 := hb5.size
                      clear hs hb5
                      generalize W5.heap.size = Bx24 at *
                      refine wpAnyL_take (T := fun _ => True) (i := 25) (v := ?vvh21x25) rfl (by kernel_rfl) (by kernel_rfl) (by kernel_rfl) (fun _ _ _ h => h) (fun _ _ => Iff.rfl) (fun _ _ _ _ _ => trivial) (Closed.of_B (by kernel_rfl)) (Or.inl ⟨by kernel_rfl, ?hyh21x25⟩) (HCS.out _ hb6) ?resth21x25
                      case hyh21x25 => (intro w _; go_simp; with_reducible rfl)
                      go_simp
                      as_aux_lemma =>
                        refine wpAnyL_ready (rs := [27]) (by kernel_rfl) (by simp) ?_
                        refine AllL.cons rfl (by kernel_rfl) (fun K hK => ?_) AllL.nil
                        have d0 := box_frozen b26 0
                        have d1 := box_frozen b26 1
                        have d2 := box_frozen b26 2
                        have e0 := box_cell b26 0
                        have e1 := box_cell b26 1
                        have e2 := box_cell b26 2
                        simp only [List.getElem?_toArray, List.getElem?_cons_zero, List.getElem?_cons_succ] at e0 e1 e2
                        go_simp
                        have hbf := ((hb6.setCell hlop26 (.slice u1a m u1c) (p := ⟨p26, 0, none⟩)).setCell hlop26 (.slice x15a (names.length + 1) x15c) (p := ⟨p26, 1, none⟩)).setCell hlop26 (.slice x24a (named.length + 1) x24c) (p := ⟨p26, 2, none⟩)
                        refine hK _ _ ⟨HCS.out _ hbf, ?_⟩
                        clear hK K
                        refine wpAnyL_done (by kernel_rfl) ?_ _
                        refine NoPanic.normal ?_
                        go_wp2
                        go_meet
                        exact ⟨p26, _, _, _, _, rfl, box3_set b26 _ _ _, names_row (own_cast (own_set3 o15 (own_box o15 b26 (by decide)) _ _ _) (by simp) rfl), RowS.of_own (own_cast (own_set3 o24 (own_box o24 b26 (by decide)) _ _ _) (by simp) rfl), hbf⟩
                    · go_simp
                      have hs := ext_alloc W3 (.cells #[.slice ma named.length mc, .slice u2a 1 u2c] 36)
                      have b23 := heap_new W3 (.cells #[.slice ma named.length mc, .slice u2a 1 u2c] 36)
                      refine hK _ _ ⟨HCS.out _ (ext_trans hb3 hs), ?_⟩
                      clear hK K
                      replace b26 := (hs.block _ (box_lt b26)).trans b26
                      replace b13 := (hs.block _ (box_lt b13)).trans b13
                      replace b14 := (hs.block _ (box_lt b14)).trans b14
                      have hb4 := ext_trans hb3 hs
                      generalize W3.alloc (.cells #[.slice ma named.length mc, .slice u2a 1 u2c] 36) = W4 at *
                      have hlop23 := hb3.size
                      clear hs hb3
                      generalize W3.heap.size = p23 at *
                      refine wpAnyL_ready (rs := [15]) (by kernel_rfl) (by simp) ?_
                      refine AllL.cons rfl (by kernel_rfl) (fun K hK => ?_) AllL.nil
                      go_simp
                      refine (CN.out W4 p13 p14 hb4 b13 b14).mono ?_
                      rintro e W5 ⟨x15, rfl, o15, hs⟩
                      obtain ⟨x15a, x15c, rfl⟩ := own_isSlice o15
                      refine hK _ _ ⟨HCS.out _ (ext_trans hb4 hs), ?_⟩
                      clear hK K
                      replace b26 := (hs.block _ (box_lt b26)).trans b26
                      replace b13 := (hs.block _ (box_lt b13)).trans b13
                      replace b14 := (hs.block _ (box_lt b14)).trans b14
                      replace b23 := (hs.block _ (box_lt b23)).trans b23
                      have hb5 := ext_trans hb4 hs
                      have hlox15 := hb4.size
                      clear hs hb4
                      generalize W4.heap.size = Bx15 at *
                      refine wpAnyL_ready (rs := [24]) (by kernel_rfl) (by simp) ?_
                      refine AllL.cons rfl (by kernel_rfl) (fun K hK => ?_) AllL.nil
                      go_simp
                      refine (CV.out W5 p23 hb5 b23).mono ?_
                      rintro e W6 ⟨x24, rfl, o24, hs⟩
                      obtain ⟨x24a, x24c, rfl⟩ := own_isSlice o24
                      refine hK _ _ ⟨HCS.out _ (ext_trans hb5 hs), ?_⟩
                      clear hK K
                      replace b26 := (hs.block _ (box_lt b26)).trans b26
                      replace b13 := (hs.block _ (box_lt b13)).trans b13
                      replace b14 := (hs.block _ (box_lt b14)).trans b14
                      replace b23 := (hs.block _ (box_lt b23)).trans b23
                      replace o15 := own_below o15 hs
                      have hb6 := ext_trans hb5 hs
                      have hlox24 := hb5.size
                      clear hs hb5
                      generalize W5.heap.size = Bx24 at *
                      refine wpAnyL_take (T := fun _ => True) (i := 25) (v := ?vvh22x25) rfl (by kernel_rfl) (by kernel_rfl) (by kernel_rfl) (fun _ _ _ h => h) (fun _ _ => Iff.rfl) (fun _ _ _ _ _ => trivial) (Closed.of_B (by kernel_rfl)) (Or.inl ⟨by kernel_rfl, ?hyh22x25⟩) (HCS.out _ hb6) ?resth22x25
                      case hyh22x25 => (intro w _; go_simp; with_reducible rfl)
                      go_simp
                      as_aux_lemma =>
                        refine wpAnyL_ready (rs := [27]) (by kernel_rfl) (by simp) ?_
                        refine AllL.cons rfl (by kernel_rfl) (fun K hK => ?_) AllL.nil
                        have d0 := box_frozen b26 0
                        have d1 := box_frozen b26 1
                        have d2 := box_frozen b26 2
                        have e0 := box_cell b26 0
                        have e1 := box_cell b26 1
                        have e2 := box_cell b26 2
                        simp only [List.getElem?_toArray, List.getElem?_cons_zero, List.getElem?_cons_succ] at e0 e1 e2
                        go_simp
                        have hbf := ((hb6.setCell hlop26 (.slice u1a m u1c) (p := ⟨p26, 0, none⟩)).setCell hlop26 (.slice x15a (names.length + 1) x15c) (p := ⟨p26, 1, none⟩)).setCell hlop26 (.slice x24a (named.length + 1) x24c) (p := ⟨p26, 2, none⟩)
                        refine hK _ _ ⟨HCS.out _ hbf, ?_⟩
                        clear hK K
                        refine wpAnyL_done (by kernel_rfl) ?_ _
                        refine NoPanic.normal ?_
                        go_wp2
                        go_meet
                        exact ⟨p26, _, _, _, _, rfl, box3_set b26 _ _ _, names_row (own_cast (own_set3 o15 (own_box o15 b26 (by decide)) _ _ _) (by simp) rfl), RowS.of_own (own_cast (own_set3 o24 (own_box o24 b26 (by decide)) _ _ _) (by simp) rfl), hbf⟩
                  · go_simp
                    have hs := ext_alloc W2 (.cells #[.slice ma named.length mc, .slice u2a 1 u2c] 36)
                    have b23 := heap_new W2 (.cells #[.slice ma named.length mc, .slice u2a 1 u2c] 36)
                    refine hK _ _ ⟨HCS.out _ (ext_trans hb2 hs), ?_⟩
                    clear hK K
                    replace b26 := (hs.block _ (box_lt b26)).trans b26
                    replace b13 := (hs.block _ (box_lt b13)).trans b13
                    have hb3 := ext_trans hb2 hs
                    generalize W2.alloc (.cells #[.slice ma named.length mc, .slice u2a 1 u2c] 36) = W3 at *
                    have hlop23 := hb2.size
                    clear hs hb2
                    generalize W2.heap.size = p23 at *
                    refine wpAnyL_ready (rs := [14]) (by kernel_rfl) (by simp) ?_
                    refine AllL.cons rfl (by kernel_rfl) (fun K hK => ?_) AllL.nil
                    go_simp
                    have hs := ext_alloc W3 (.cells #[.slice na names.length nc, .slice (some ⟨p13, 0, none⟩) 1 1] 37)
                    have b14 := heap_new W3 (.cells #[.slice na names.length nc, .slice (some ⟨p13, 0, none⟩) 1 1] 37)
                    refine hK _ _ ⟨HCS.out _ (ext_trans hb3 hs), ?_⟩
                    clear hK K
                    replace b26 := (hs.block _ (box_lt b26)).trans b26
                    replace b13 := (hs.block _ (box_lt b13)).trans b13
                    replace b23 := (hs.block _ (box_lt b23)).trans b23
                    have hb4 := ext_trans hb3 hs
                    generalize W3.alloc (.cells #[.slice na names.length nc, .slice (some ⟨p13, 0, none⟩) 1 1] 37) = W4 at *
                    have hlop14 := hb3.size
                    clear hs hb3
                    generalize W3.heap.size = p14 at *
                    refine wpAnyL_ready (rs := [15]) (by kernel_rfl) (by simp) ?_
                    refine AllL.cons rfl (by kernel_rfl) (fun K hK => ?_) AllL.nil
                    go_simp
                    refine (CN.out W4 p13 p14 hb4 b13 b14).mono ?_
                    rintro e W5 ⟨x15, rfl, o15, hs⟩
                    obtain ⟨x15a, x15c, rfl⟩ := own_isSlice o15
                    refine hK _ _ ⟨HCS.out _ (ext_trans hb4 hs), ?_⟩
                    clear hK K
                    replace b26 := (hs.block _ (box_lt b26)).trans b26
                    replace b13 := (hs.block _ (box_lt b13)).trans b13
                    replace b23 := (hs.block _ (box_lt b23)).trans b23
                    replace b14 := (hs.block _ (box_lt b14)).trans b14
                    have hb5 := ext_trans hb4 hs
                    have hlox15 := hb4.size
                    clear hs hb4
                    generalize W4.heap.size = Bx15 at *
                    refine wpAnyL_ready (rs := [24]) (by kernel_rfl) (by simp) ?_
                    refine AllL.cons rfl (by kernel_rfl) (fun K hK => ?_) AllL.nil
                    go_simp
                    refine (CV.out W5 p23 hb5 b23).mono ?_
                    rintro e W6 ⟨x24, rfl, o24, hs⟩
                    obtain ⟨x24a, x24c, rfl⟩ := own_isSlice o24
                    refine hK _ _ ⟨HCS.out _ (ext_trans hb5 hs), ?_⟩
                    clear hK K
                    replace b26 := (hs.block _ (box_lt b26)).trans b26
                    replace b13 := (hs.block _ (box_lt b13)).trans b13
                    replace b23 := (hs.block _ (box_lt b23)).trans b23
                    replace b14 := (hs.block _ (box_lt b14)).trans b14
                    replace o15 := own_below o15 hs
                    have hb6 := ext_trans hb5 hs
                    have hlox24 := hb5.size
                    clear hs hb5
                    generalize W5.heap.size = Bx24 at *
                    refine wpAnyL_take (T := fun _ => True) (i := 25) (v := ?vvh23x25) rfl (by kernel_rfl) (by kernel_rfl) (by kernel_rfl) (fun _ _ _ h => h) (fun _ _ => Iff.rfl) (fun _ _ _ _ _ => trivial) (Closed.of_B (by kernel_rfl)) (Or.inl ⟨by kernel_rfl, ?hyh23x25⟩) (HCS.out _ hb6) ?resth23x25
                    case hyh23x25 => (intro w _; go_simp; with_reducible rfl)
                    go_simp
                    as_aux_lemma =>
                      refine wpAnyL_ready (rs := [27]) (by kernel_rfl) (by simp) ?_
                      refine AllL.cons rfl (by kernel_rfl) (fun K hK => ?_) AllL.nil
                      have d0 := box_frozen b26 0
                      have d1 := box_frozen b26 1
                      have d2 := box_frozen b26 2
                      have e0 := box_cell b26 0
                      have e1 := box_cell b26 1
                      have e2 := box_cell b26 2
                      simp only [List.getElem?_toArray, List.getElem?_cons_zero, List.getElem?_cons_succ] at e0 e1 e2
                      go_simp
                      have hbf := ((hb6.setCell hlop26 (.slice u1a m u1c) (p := ⟨p26, 0, none⟩)).setCell hlop26 (.slice x15a (names.length + 1) x15c) (p := ⟨p26, 1, none⟩)).setCell hlop26 (.slice x24a (named.length + 1) x24c) (p := ⟨p26, 2, none⟩)
                      refine hK _ _ ⟨HCS.out _ hbf, ?_⟩
                      clear hK K
                      refine wpAnyL_done (by kernel_rfl) ?_ _
                      refine NoPanic.normal ?_
                      go_wp2
                      go_meet
                      exact ⟨p26, _, _, _, _, rfl, box3_set b26 _ _ _, names_row (own_cast (own_set3 o15 (own_box o15 b26 (by decide)) _ _ _) (by simp) rfl), RowS.of_own (own_cast (own_set3 o24 (own_box o24 b26 (by decide)) _ _ _) (by simp) rfl), hbf⟩
                · go_simp
                  have hs := ext_alloc W1 (.cells #[.slice ma named.length mc, .slice u2a 1 u2c] 36)
                  have b23 := heap_new W1 (.cells #[.slice ma named.length mc, .slice u2a 1 u2c] 36)
                  refine hK _ _ ⟨HCS.out _ (ext_trans hb1 hs), ?_⟩
                  clear hK K
                  replace b26 := (hs.block _ (box_lt b26)).trans b26
                  have hb2 := ext_trans hb1 hs
                  generalize W1.alloc (.cells #[.slice ma named.length mc, .slice u2a 1 u2c] 36) = W2 at *
                  have hlop23 := hb1.size
                  clear hs hb1
                  generalize W1.heap.size = p23 at *
                  refine wpAnyL_ready (rs := [13]) (by kernel_rfl) (by simp) ?_
                  refine AllL.cons rfl (by kernel_rfl) (fun K hK => ?_) AllL.nil
                  go_simp
                  have hs := ext_alloc W2 (.cells #[.string nm] 9)
                  have b13 := heap_new W2 (.cells #[.string nm] 9)
                  refine hK _ _ ⟨HCS.out _ (ext_trans hb2 hs), ?_⟩
                  clear hK K
                  replace b26 := (hs.block _ (box_lt b26)).trans b26
                  replace b23 := (hs.block _ (box_lt b23)).trans b23
                  have hb3 := ext_trans hb2 hs
                  generalize W2.alloc (.cells #[.string nm] 9) = W3 at *
                  have hlop13 := hb2.size
                  clear hs hb2
                  generalize W2.heap.size = p13 at *
                  refine wpAnyL_ready (rs := [14]) (by kernel_rfl) (by simp) ?_
                  refine AllL.cons rfl (by kernel_rfl) (fun K hK => ?_) AllL.nil
                  go_simp
                  have hs := ext_alloc W3 (.cells #[.slice na names.length nc, .slice (some ⟨p13, 0, none⟩) 1 1] 37)
                  have b14 := heap_new W3 (.cells #[.slice na names.length nc, .slice (some ⟨p13, 0, none⟩) 1 1] 37)
                  refine hK _ _ ⟨HCS.out _ (ext_trans hb3 hs), ?_⟩
                  clear hK K
                  replace b26 := (hs.block _ (box_lt b26)).trans b26
                  replace b23 := (hs.block _ (box_lt b23)).trans b23
                  replace b13 := (hs.block _ (box_lt b13)).trans b13
                  have hb4 := ext_trans hb3 hs
                  generalize W3.alloc (.cells #[.slice na names.length nc, .slice (some ⟨p13, 0, none⟩) 1 1] 37) = W4 at *
                  have hlop14 := hb3.size
                  clear hs hb3
                  generalize W3.heap.size = p14 at *
                  refine wpAnyL_ready (rs := [15]) (by kernel_rfl) (by simp) ?_
                  refine AllL.cons rfl (by kernel_rfl) (fun K hK => ?_) AllL.nil
                  go_simp
                  refine (CN.out W4 p13 p14 hb4 b13 b14).mono ?_
                  rintro e W5 ⟨x15, rfl, o15, hs⟩
                  obtain ⟨x15a, x15c, rfl⟩ := own_isSlice o15
                  refine hK _ _ ⟨HCS.out _ (ext_trans hb4 hs), ?_⟩
                  clear hK K
                  replace b26 := (hs.block _ (box_lt b26)).trans b26
                  replace b23 := (hs.block _ (box_lt b23)).trans b23
                  replace b13 := (hs.block _ (box_lt b13)).trans b13
                  replace b14 := (hs.block _ (box_lt b14)).trans b14
                  have hb5 := ext_trans hb4 hs
                  have hlox15 := hb4.size
                  clear hs hb4
                  generalize W4.heap.size = Bx15 at *
                  refine wpAnyL_ready (rs := [24]) (by kernel_rfl) (by simp) ?_
                  refine AllL.cons rfl (by kernel_rfl) (fun K hK => ?_) AllL.nil
                  go_simp
                  refine (CV.out W5 p23 hb5 b23).mono ?_
                  rintro e W6 ⟨x24, rfl, o24, hs⟩
                  obtain ⟨x24a, x24c, rfl⟩ := own_isSlice o24
                  refine hK _ _ ⟨HCS.out _ (ext_trans hb5 hs), ?_⟩
                  clear hK K
                  replace b26 := (hs.block _ (box_lt b26)).trans b26
                  replace b23 := (hs.block _ (box_lt b23)).trans b23
                  replace b13 := (hs.block _ (box_lt b13)).trans b13
                  replace b14 := (hs.block _ (box_lt b14)).trans b14
                  replace o15 := own_below o15 hs
                  have hb6 := ext_trans hb5 hs
                  have hlox24 := hb5.size
                  clear hs hb5
                  generalize W5.heap.size = Bx24 at *
                  refine wpAnyL_take (T := fun _ => True) (i := 25) (v := ?vvh24x25) rfl (by kernel_rfl) (by kernel_rfl) (by kernel_rfl) (fun _ _ _ h => h) (fun _ _ => Iff.rfl) (fun _ _ _ _ _ => trivial) (Closed.of_B (by kernel_rfl)) (Or.inl ⟨by kernel_rfl, ?hyh24x25⟩) (HCS.out _ hb6) ?resth24x25
                  case hyh24x25 => (intro w _; go_simp; with_reducible rfl)
                  go_simp
                  as_aux_lemma =>
                    refine wpAnyL_ready (rs := [27]) (by kernel_rfl) (by simp) ?_
                    refine AllL.cons rfl (by kernel_rfl) (fun K hK => ?_) AllL.nil
                    have d0 := box_frozen b26 0
                    have d1 := box_frozen b26 1
                    have d2 := box_frozen b26 2
                    have e0 := box_cell b26 0
                    have e1 := box_cell b26 1
                    have e2 := box_cell b26 2
                    simp only [List.getElem?_toArray, List.getElem?_cons_zero, List.getElem?_cons_succ] at e0 e1 e2
                    go_simp
                    have hbf := ((hb6.setCell hlop26 (.slice u1a m u1c) (p := ⟨p26, 0, none⟩)).setCell hlop26 (.slice x15a (names.length + 1) x15c) (p := ⟨p26, 1, none⟩)).setCell hlop26 (.slice x24a (named.length + 1) x24c) (p := ⟨p26, 2, none⟩)
                    refine hK _ _ ⟨HCS.out _ hbf, ?_⟩
                    clear hK K
                    refine wpAnyL_done (by kernel_rfl) ?_ _
                    refine NoPanic.normal ?_
                    go_wp2
                    go_meet
                    exact ⟨p26, _, _, _, _, rfl, box3_set b26 _ _ _, names_row (own_cast (own_set3 o15 (own_box o15 b26 (by decide)) _ _ _) (by simp) rfl), RowS.of_own (own_cast (own_set3 o24 (own_box o24 b26 (by decide)) _ _ _) (by simp) rfl), hbf⟩
            case rest =>
              obtain ⟨p26, xa, xc, ya, yc, rfl, hx26, hr1, hr2, hbe⟩ := hcut
              obtain ⟨wE, hwE⟩ : ∃ wE : World, wE = wc := ⟨_, rfl⟩
              subst hwE
              clear HCS CN CV
              have hbw := ext_trans hb3 hbe
              have hzz := (hbe.block _ (box_lt hz1)).trans hz1
              obtain ⟨y0', y1', y2', y3', -, -⟩ := box4 hzz
              obtain ⟨d0, d1, d2, -, -⟩ := box3 hx26
              obtain ⟨_, _, _, hnd⟩ := bind_order (fun x hx => HMU.out x.2 (List.of_mem_zip hx).2) (List.Perm.refl _) HBI.out
              have hbs := HX2.out
              rw [show names.zip named ++ [(nm, lx)] = (names ++ [nm]).zip (named ++ [lx]) by rw [List.zip_append HNM.out]; rfl] at hbs
              have hcall := binds_rel (.slice (some ⟨pb, po, none⟩) ps.length pc) (.slice da ds.length dc) (.slice u1a m u1c) (.slice xa (names.length + 1) xc) (.slice ya (named.length + 1) yc) _ _ _ _ ps ds (l.take m) (names ++ [nm]) (named ++ [lx]) ⟨vals, nms, nmd⟩ ⟨vals, nms, nmd⟩ rest wE
                (HV.out.below hbw) (HD.out.below hbw) ((HU1.out.below hbe).cast (by simp; omega) rfl) hr1 hr2 HP0.out HSN.out (by simpa using HNM.out) (by simp; omega) (fun x hx => HLU.out x (List.mem_of_mem_take hx))
                (fun x hx => by
                  rcases List.mem_append.1 hx with hx | hx
                  · exact HMU.out x hx
                  · rw [List.mem_singleton.1 hx]; exact HUX.out) HSZ.out
                (fun x hx => by
                  rcases List.mem_append.1 hx with hx | hx
                  · exact HNS.out x hx
                  · rw [List.mem_singleton.1 hx]; exact hbnm)
                (HBA3.out.below hbe) hbs (RelB.refl HNL2.out) hnd (fun x hx => (HGV.out.1 x hx).below hbw) (fun x hx => (HGV.out.2.1 x hx).below hbw) (fun x hx => (HGV.out.2.2 x hx).below hbw)
              have HC := Lib.hid hcall
              clear hcall hbs hnd hr1 hr2 hzz
              go_wp2_with fail
              refine HC.out.mono ?_
              rintro e w9 ⟨rfl, hb9⟩
              go_wp2
              go_meet
              exact ext_trans hbe hb9
        case rest =>
          clear HKB c0 c1 c2
          obtain ⟨wA, hwA⟩ : ∃ wA : World, wA = wc := ⟨_, rfl⟩
          subst hwA
          replace hx1 := (hcut.block _ (box_lt hx1)).trans hx1
          replace hz1 := (hcut.block _ (box_lt hz1)).trans hz1
          have hbc := ext_trans hb3 hcut
          have HBAc := Lib.hid (HBA3.out.below hcut)
          clear hcut hb3 HBA3
          have c0 := box_cell hx1 0
          have c1 := box_cell hx1 1
          have c2 := box_cell hx1 2
          simp only [List.getElem?_toArray, List.getElem?_cons_zero, List.getElem?_cons_succ] at c0 c1 c2
          by_cases h1 : 1 < names.length
          · have i1 : ((names.length : Int) > 1) := by omega
            have i2 : ¬ ((names.length : Int) = 0) := by omega
            go_upto_region 13 with fail
            obtain ⟨i', hi', t1⟩ := turn_ok i (show 0 < names.length by omega) (by omega)
            obtain ⟨k', hk', t2⟩ := turn_ok k (show 0 < names.length by omega) (by omega)
            have HT1 := Lib.hid t1
            have HT2 := Lib.hid t2
            clear h1 t1 t2
            go_wp2
            go_region
            rw [HT1.out, HT2.out]
            clear HT1 HT2 i1 i2
            have hcs : ∀ W, Below wA.heap.size wA W → Cs [(⟨w.heap.size, 0, none⟩, .slice la l.length lc), (⟨w.heap.size, 1, none⟩, .slice na names.length nc), (⟨w.heap.size, 2, none⟩, .slice ma named.length mc)] W := by
              intro W hW
              have hx := (hW.block _ (box_lt hx1)).trans hx1
              have c0 := box_cell hx 0
              have c1 := box_cell hx 1
              have c2 := box_cell hx 2
              simp only [List.getElem?_toArray, List.getElem?_cons_zero, List.getElem?_cons_succ] at c0 c1 c2
              simp only [Cs, List.forall_mem_cons]
              exact ⟨c0, c1, c2, fun _ h => by cases h⟩
            have HCS := Lib.hid hcs
            have CN := Lib.hid (fun W (h : Below wA.heap.size wA W) => CloneS_any _ names.length (names.map Value.string) W (HN1.out.below (ext_trans hbc h)) (by simp [Value.oneCell']) (by omega))
            have CV := Lib.hid (fun W (h : Below wA.heap.size wA W) => CloneV_any _ named.length (named.flatMap valC) W (HM.out.below (ext_trans hbc h)) (flat_one named) (by have := HNM.out; omega))
            clear hcs c0 c1 c2
            go_upto_region 14 with fail
            go_cut [17] (fun s17 wx => ∃ p9 xa xc ya yc, s17 = .pointer (some ⟨p9, 0, none⟩) ∧ wx.heap[p9]? = some (.cells #[.slice la l.length lc, .slice xa names.length xc, .slice ya named.length yc] 39 (0, 0)) ∧
              wx.ownsRow wA.heap.size 9 1 (.slice xa names.length xc) names.length (names.map Value.string) ∧ wx.ownsRow wA.heap.size 58 7 (.slice ya named.length yc) named.length (named.flatMap valC) ∧ Below wA.heap.size wA wx)
            case first => as_aux_lemma =>
              go_wp2
              refine wp_region_noPanic ?_
              refine wp_region_L (S := fun _ W => Cs [(⟨w.heap.size, 0, none⟩, .slice la l.length lc), (⟨w.heap.size, 1, none⟩, .slice na names.length nc), (⟨w.heap.size, 2, none⟩, .slice ma named.length mc)] W) (by kernel_rfl) ?_
              have hb0 : Below wA.heap.size wA { wA.drew with drawn := wA.drew.drawn + 1 } := (Below.refl _ _).drew.drew
              generalize ({ wA.drew with drawn := wA.drew.drawn + 1 } : World) = W0 at *
              have hS0 := HCS.out W0 hb0
              refine wpAnyL_take (T := fun _ => True) (i := 0) (v := ?vve0) rfl (by kernel_rfl) (by kernel_rfl) (by kernel_rfl) (fun _ _ _ h => h) (fun _ _ => Iff.rfl) (fun _ _ _ _ _ => trivial) (Closed.of_B (by kernel_rfl)) (Or.inl ⟨by kernel_rfl, ?hye0⟩) hS0 ?reste0
              case hye0 => (intro w _; go_simp; with_reducible rfl)
              go_simp
              refine wpAnyL_take (T := fun W => Cs [(⟨w.heap.size, 0, none⟩, .slice la l.length lc), (⟨w.heap.size, 1, none⟩, .slice na names.length nc), (⟨w.heap.size, 2, none⟩, .slice ma named.length mc)] W) (i := 1) (v := ?vve1) rfl (by kernel_rfl) (by kernel_rfl) (by kernel_rfl) (fun _ _ _ h => h) (fun _ _ => Iff.rfl) (fun _ _ _ _ h => h) (Closed.of_B (by kernel_rfl)) (Or.inl ⟨by kernel_rfl, ?hye1⟩) hS0 ?reste1
              case hye1 => (intro W hW; simp only [Cs, List.forall_mem_cons] at hW; obtain ⟨m0, m1, m2, -⟩ := hW; go_simp; with_reducible rfl)
              go_simp
              refine wpAnyL_take (T := fun _ => True) (i := 2) (v := ?vve2) rfl (by kernel_rfl) (by kernel_rfl) (by kernel_rfl) (fun _ _ _ h => h) (fun _ _ => Iff.rfl) (fun _ _ _ _ _ => trivial) (Closed.of_B (by kernel_rfl)) (Or.inl ⟨by kernel_rfl, ?hye2⟩) hS0 ?reste2
              case hye2 => (intro w _; go_simp; with_reducible rfl)
              go_simp
              refine wpAnyL_take (T := fun W => Cs [(⟨w.heap.size, 0, none⟩, .slice la l.length lc), (⟨w.heap.size, 1, none⟩, .slice na names.length nc), (⟨w.heap.size, 2, none⟩, .slice ma named.length mc)] W) (i := 3) (v := ?vve3) rfl (by kernel_rfl) (by kernel_rfl) (by kernel_rfl) (fun _ _ _ h => h) (fun _ _ => Iff.rfl) (fun _ _ _ _ h => h) (Closed.of_B (by kernel_rfl)) (Or.inl ⟨by kernel_rfl, ?hye3⟩) hS0 ?reste3
              case hye3 => (intro W hW; simp only [Cs, List.forall_mem_cons] at hW; obtain ⟨m0, m1, m2, -⟩ := hW; go_simp; with_reducible rfl)
              go_simp
              refine wpAnyL_take (T := fun _ => True) (i := 5) (v := ?vve5) rfl (by kernel_rfl) (by kernel_rfl) (by kernel_rfl) (fun _ _ _ h => h) (fun _ _ => Iff.rfl) (fun _ _ _ _ _ => trivial) (Closed.of_B (by kernel_rfl)) (Or.inl ⟨by kernel_rfl, ?hye5⟩) hS0 ?reste5
              case hye5 => (intro w _; go_simp; with_reducible rfl)
              go_simp
              refine wpAnyL_take (T := fun W => Cs [(⟨w.heap.size, 0, none⟩, .slice la l.length lc), (⟨w.heap.size, 1, none⟩, .slice na names.length nc), (⟨w.heap.size, 2, none⟩, .slice ma named.length mc)] W) (i := 6) (v := ?vve6) rfl (by kernel_rfl) (by kernel_rfl) (by kernel_rfl) (fun _ _ _ h => h) (fun _ _ => Iff.rfl) (fun _ _ _ _ h => h) (Closed.of_B (by kernel_rfl)) (Or.inl ⟨by kernel_rfl, ?hye6⟩) hS0 ?reste6
              case hye6 => (intro W hW; simp only [Cs, List.forall_mem_cons] at hW; obtain ⟨m0, m1, m2, -⟩ := hW; go_simp; with_reducible rfl)
              go_simp
              clear hS0
              refine wpAnyL_ready (rs := [4, 9]) (by kernel_rfl) (by simp) ?_
              refine AllL.cons rfl (by kernel_rfl) (fun K hK => ?_) (AllL.cons rfl (by kernel_rfl) (fun K hK => ?_) AllL.nil)
              · go_simp
                refine (CN.out W0 hb0).mono ?_
                rintro e W1 ⟨x4, rfl, o4, hs⟩
                obtain ⟨x4a, x4c, rfl⟩ := own_isSlice o4
                refine hK _ _ ⟨HCS.out _ (ext_trans hb0 hs), ?_⟩
                clear hK K
                have hb1 := ext_trans hb0 hs
                have hlox4 := hb0.size
                clear hs hb0
                generalize W0.heap.size = Bx4 at *
                refine wpAnyL_ready (rs := [7, 9]) (by kernel_rfl) (by simp) ?_
                refine AllL.cons rfl (by kernel_rfl) (fun K hK => ?_) (AllL.cons rfl (by kernel_rfl) (fun K hK => ?_) AllL.nil)
                · go_simp
                  refine (CV.out W1 hb1).mono ?_
                  rintro e W2 ⟨x7, rfl, o7, hs⟩
                  obtain ⟨x7a, x7c, rfl⟩ := own_isSlice o7
                  refine hK _ _ ⟨HCS.out _ (ext_trans hb1 hs), ?_⟩
                  clear hK K
                  replace o4 := own_below o4 hs
                  have hb2 := ext_trans hb1 hs
                  have hlox7 := hb1.size
                  clear hs hb1
                  generalize W1.heap.size = Bx7 at *
                  refine wpAnyL_take (T := fun _ => True) (i := 8) (v := ?vve1x8) rfl (by kernel_rfl) (by kernel_rfl) (by kernel_rfl) (fun _ _ _ h => h) (fun _ _ => Iff.rfl) (fun _ _ _ _ _ => trivial) (Closed.of_B (by kernel_rfl)) (Or.inl ⟨by kernel_rfl, ?hye1x8⟩) (HCS.out _ hb2) ?reste1x8
                  case hye1x8 => (intro w _; go_simp; with_reducible rfl)
                  go_simp
                  refine wpAnyL_ready (rs := [9]) (by kernel_rfl) (by simp) ?_
                  refine AllL.cons rfl (by kernel_rfl) (fun K hK => ?_) AllL.nil
                  go_simp
                  have hs := ext_alloc W2 (.cells #[.slice none 0 0, .slice none 0 0, .slice none 0 0] 39)
                  have b9 := heap_new W2 (.cells #[.slice none 0 0, .slice none 0 0, .slice none 0 0] 39)
                  refine hK _ _ ⟨HCS.out _ (ext_trans hb2 hs), ?_⟩
                  clear hK K
                  replace o4 := own_below o4 hs
                  replace o7 := own_below o7 hs
                  have hb3 := ext_trans hb2 hs
                  generalize W2.alloc (.cells #[.slice none 0 0, .slice none 0 0, .slice none 0 0] 39) = W3 at *
                  have hlop9 := hb2.size
                  clear hs hb2
                  generalize W2.heap.size = p9 at *
                  as_aux_lemma =>
                    refine wpAnyL_ready (rs := [10]) (by kernel_rfl) (by simp) ?_
                    refine AllL.cons rfl (by kernel_rfl) (fun K hK => ?_) AllL.nil
                    have d0 := box_frozen b9 0
                    have d1 := box_frozen b9 1
                    have d2 := box_frozen b9 2
                    have e0 := box_cell b9 0
                    have e1 := box_cell b9 1
                    have e2 := box_cell b9 2
                    simp only [List.getElem?_toArray, List.getElem?_cons_zero, List.getElem?_cons_succ] at e0 e1 e2
                    go_simp
                    have hbf := ((hb3.setCell hlop9 (.slice la l.length lc) (p := ⟨p9, 0, none⟩)).setCell hlop9 (.slice x4a names.length x4c) (p := ⟨p9, 1, none⟩)).setCell hlop9 (.slice x7a named.length x7c) (p := ⟨p9, 2, none⟩)
                    refine hK _ _ ⟨HCS.out _ hbf, ?_⟩
                    clear hK K
                    refine wpAnyL_done (by kernel_rfl) ?_ _
                    refine NoPanic.normal ?_
                    go_wp2
                    go_meet
                    exact ⟨p9, _, _, _, _, rfl, box3_set b9 _ _ _, own_set3 (own_base o4 hlox4) (own_box o4 b9 (by decide)) _ _ _, own_set3 (own_base o7 hlox7) (own_box o7 b9 (by decide)) _ _ _, hbf⟩
                · go_simp
                  have hs := ext_alloc W1 (.cells #[.slice none 0 0, .slice none 0 0, .slice none 0 0] 39)
                  have b9 := heap_new W1 (.cells #[.slice none 0 0, .slice none 0 0, .slice none 0 0] 39)
                  refine hK _ _ ⟨HCS.out _ (ext_trans hb1 hs), ?_⟩
                  clear hK K
                  replace o4 := own_below o4 hs
                  have hb2 := ext_trans hb1 hs
                  generalize W1.alloc (.cells #[.slice none 0 0, .slice none 0 0, .slice none 0 0] 39) = W2 at *
                  have hlop9 := hb1.size
                  clear hs hb1
                  generalize W1.heap.size = p9 at *
                  refine wpAnyL_ready (rs := [7]) (by kernel_rfl) (by simp) ?_
                  refine AllL.cons rfl (by kernel_rfl) (fun K hK => ?_) AllL.nil
                  go_simp
                  refine (CV.out W2 hb2).mono ?_
                  rintro e W3 ⟨x7, rfl, o7, hs⟩
                  obtain ⟨x7a, x7c, rfl⟩ := own_isSlice o7
                  refine hK _ _ ⟨HCS.out _ (ext_trans hb2 hs), ?_⟩
                  clear hK K
                  replace b9 := (hs.block _ (box_lt b9)).trans b9
                  replace o4 := own_below o4 hs
                  have hb3 := ext_trans hb2 hs
                  have hlox7 := hb2.size
                  clear hs hb2
                  generalize W2.heap.size = Bx7 at *
                  refine wpAnyL_take (T := fun _ => True) (i := 8) (v := ?vve2x8) rfl (by kernel_rfl) (by kernel_rfl) (by kernel_rfl) (fun _ _ _ h => h) (fun _ _ => Iff.rfl) (fun _ _ _ _ _ => trivial) (Closed.of_B (by kernel_rfl)) (Or.inl ⟨by kernel_rfl, ?hye2x8⟩) (HCS.out _ hb3) ?reste2x8
                  case hye2x8 => (intro w _; go_simp; with_reducible rfl)
                  go_simp
                  as_aux_lemma =>
                    refine wpAnyL_ready (rs := [10]) (by kernel_rfl) (by simp) ?_
                    refine AllL.cons rfl (by kernel_rfl) (fun K hK => ?_) AllL.nil
                    have d0 := box_frozen b9 0
                    have d1 := box_frozen b9 1
                    have d2 := box_frozen b9 2
                    have e0 := box_cell b9 0
                    have e1 := box_cell b9 1
                    have e2 := box_cell b9 2
                    simp only [List.getElem?_toArray, List.getElem?_cons_zero, List.getElem?_cons_succ] at e0 e1 e2
                    go_simp
                    have hbf := ((hb3.setCell hlop9 (.slice la l.length lc) (p := ⟨p9, 0, none⟩)).setCell hlop9 (.slice x4a names.length x4c) (p := ⟨p9, 1, none⟩)).setCell hlop9 (.slice x7a named.length x7c) (p := ⟨p9, 2, none⟩)
                    refine hK _ _ ⟨HCS.out _ hbf, ?_⟩
                    clear hK K
                    refine wpAnyL_done (by kernel_rfl) ?_ _
                    refine NoPanic.normal ?_
                    go_wp2
                    go_meet
                    exact ⟨p9, _, _, _, _, rfl, box3_set b9 _ _ _, own_set3 (own_base o4 hlox4) (own_box o4 b9 (by decide)) _ _ _, own_set3 (own_base o7 hlox7) (own_box o7 b9 (by decide)) _ _ _, hbf⟩
              · go_simp
                have hs := ext_alloc W0 (.cells #[.slice none 0 0, .slice none 0 0, .slice none 0 0] 39)
                have b9 := heap_new W0 (.cells #[.slice none 0 0, .slice none 0 0, .slice none 0 0] 39)
                refine hK _ _ ⟨HCS.out _ (ext_trans hb0 hs), ?_⟩
                clear hK K
                have hb1 := ext_trans hb0 hs
                generalize W0.alloc (.cells #[.slice none 0 0, .slice none 0 0, .slice none 0 0] 39) = W1 at *
                have hlop9 := hb0.size
                clear hs hb0
                generalize W0.heap.size = p9 at *
                refine wpAnyL_ready (rs := [4]) (by kernel_rfl) (by simp) ?_
                refine AllL.cons rfl (by kernel_rfl) (fun K hK => ?_) AllL.nil
                go_simp
                refine (CN.out W1 hb1).mono ?_
                rintro e W2 ⟨x4, rfl, o4, hs⟩
                obtain ⟨x4a, x4c, rfl⟩ := own_isSlice o4
                refine hK _ _ ⟨HCS.out _ (ext_trans hb1 hs), ?_⟩
                clear hK K
                replace b9 := (hs.block _ (box_lt b9)).trans b9
                have hb2 := ext_trans hb1 hs
                have hlox4 := hb1.size
                clear hs hb1
                generalize W1.heap.size = Bx4 at *
                refine wpAnyL_ready (rs := [7]) (by kernel_rfl) (by simp) ?_
                refine AllL.cons rfl (by kernel_rfl) (fun K hK => ?_) AllL.nil
                go_simp
                refine (CV.out W2 hb2).mono ?_
                rintro e W3 ⟨x7, rfl, o7, hs⟩
                obtain ⟨x7a, x7c, rfl⟩ := own_isSlice o7
                refine hK _ _ ⟨HCS.out _ (ext_trans hb2 hs), ?_⟩
                clear hK K
                replace b9 := (hs.block _ (box_lt b9)).trans b9
                replace o4 := own_below o4 hs
                have hb3 := ext_trans hb2 hs
                have hlox7 := hb2.size
                clear hs hb2
                generalize W2.heap.size = Bx7 at *
                refine wpAnyL_take (T := fun _ => True) (i := 8) (v := ?vve3x8) rfl (by kernel_rfl) (by kernel_rfl) (by kernel_rfl) (fun _ _ _ h => h) (fun _ _ => Iff.rfl) (fun _ _ _ _ _ => trivial) (Closed.of_B (by kernel_rfl)) (Or.inl ⟨by kernel_rfl, ?hye3x8⟩) (HCS.out _ hb3) ?reste3x8
                case hye3x8 => (intro w _; go_simp; with_reducible rfl)
                go_simp
                as_aux_lemma =>
                  refine wpAnyL_ready (rs := [10]) (by kernel_rfl) (by simp) ?_
                  refine AllL.cons rfl (by kernel_rfl) (fun K hK => ?_) AllL.nil
                  have d0 := box_frozen b9 0
                  have d1 := box_frozen b9 1
                  have d2 := box_frozen b9 2
                  have e0 := box_cell b9 0
                  have e1 := box_cell b9 1
                  have e2 := box_cell b9 2
                  simp only [List.getElem?_toArray, List.getElem?_cons_zero, List.getElem?_cons_succ] at e0 e1 e2
                  go_simp
                  have hbf := ((hb3.setCell hlop9 (.slice la l.length lc) (p := ⟨p9, 0, none⟩)).setCell hlop9 (.slice x4a names.length x4c) (p := ⟨p9, 1, none⟩)).setCell hlop9 (.slice x7a named.length x7c) (p := ⟨p9, 2, none⟩)
                  refine hK _ _ ⟨HCS.out _ hbf, ?_⟩
                  clear hK K
                  refine wpAnyL_done (by kernel_rfl) ?_ _
                  refine NoPanic.normal ?_
                  go_wp2
                  go_meet
                  exact ⟨p9, _, _, _, _, rfl, box3_set b9 _ _ _, own_set3 (own_base o4 hlox4) (own_box o4 b9 (by decide)) _ _ _, own_set3 (own_base o7 hlox7) (own_box o7 b9 (by decide)) _ _ _, hbf⟩
            case rest =>
              obtain ⟨p9, xa, xc, ya, yc, rfl, hx9, ho1, ho2, hbe⟩ := hcut
              obtain ⟨wE, hwE⟩ : ∃ wE : World, wE = wc := ⟨_, rfl⟩
              subst hwE
              have him : i' < named.length := by have := HNM.out; omega
              have hkm : k' < named.length := by have := HNM.out; omega
              obtain ⟨g1, e1, hee, hg1⟩ := own_form ho1 (by omega)
              simp only [Value.slice.injEq, true_and] at hee
              obtain ⟨rfl, rfl⟩ := hee
              obtain ⟨g2, e2, hee, hg2⟩ := own_form ho2 (by omega)
              simp only [Value.slice.injEq, true_and] at hee
              obtain ⟨rfl, rfl⟩ := hee
              clear HCS CN CV
              go_upto_region 15 with fail
              obtain ⟨W0, hW0⟩ : ∃ W0 : World, W0 = { wE with drawn := wE.drawn + 1 } := ⟨_, rfl⟩
              have hb0 : Below wA.heap.size wA W0 := by rw [hW0]; exact hbe.drew
              have o1 : W0.ownsRow wA.heap.size 9 1 (.slice (some ⟨g1, 0, none⟩) names.length xc) names.length (names.map Value.string) := by rw [hW0]; exact own_drew ho1
              have o2 : W0.ownsRow wA.heap.size 58 7 (.slice (some ⟨g2, 0, none⟩) named.length yc) named.length (named.flatMap valC) := by rw [hW0]; exact own_drew ho2
              have h9 : W0.heap[p9]? = some (.cells #[.slice la l.length lc, .slice (some ⟨g1, 0, none⟩) names.length xc, .slice (some ⟨g2, 0, none⟩) named.length yc] 39 (0, 0)) := by rw [hW0]; exact hx9
              clear ho1 ho2 hx9 hbe
              have z1 := own_str o1 rfl hk'
              have z2 := own_str o1 rfl hi'
              obtain ⟨g', e, v0, v1, v2, v3, v4, v5, v6⟩ := own_cells7v o2 rfl hkm
              simp only [Value.ownBlock, Option.some.injEq] at e
              subst e
              obtain ⟨g', e, x0, x1, x2, x3, x4, x5, x6⟩ := own_cells7v o2 rfl him
              simp only [Value.ownBlock, Option.some.injEq] at e
              subst e
              generalize hnk : names[k'] = nk at *
              have HNK := Lib.hid hnk
              clear hnk
              generalize hni : names[i'] = ni at *
              have HNI := Lib.hid hni
              clear hni
              generalize hxk : named[k'] = xk at *
              have HXK := Lib.hid hxk
              clear hxk
              generalize hxi : named[i'] = xi at *
              have HXI := Lib.hid hxi
              clear hxi
              obtain ⟨kk, kn, kna, knl, knc, kd, kda, kdl, kdc, ks, kr⟩ := xk
              obtain ⟨ik, inn, ina, inl, inc, idd, ida, idl, idc, iss, ir⟩ := xi
              simp only at v0 v1 v2 v3 v4 v5 v6 x0 x1 x2 x3 x4 x5 x6
              have hhd : ∀ W : World, W.heap[p9]? = some (.cells #[.slice la l.length lc, .slice (some ⟨g1, 0, none⟩) names.length xc, .slice (some ⟨g2, 0, none⟩) named.length yc] 39 (0, 0)) → Cs [(⟨p9, 1, none⟩, .slice (some ⟨g1, 0, none⟩) names.length xc), (⟨p9, 2, none⟩, .slice (some ⟨g2, 0, none⟩) named.length yc)] W := by
                intro W hW
                have d1 := box_cell hW 1
                have d2 := box_cell hW 2
                simp only [List.getElem?_toArray, List.getElem?_cons_zero, List.getElem?_cons_succ] at d1 d2
                simp only [Cs, List.forall_mem_cons]
                exact ⟨d1, d2, fun _ h => by cases h⟩
              have HH := Lib.hid hhd
              clear hhd
              have hS1 := HH.out W0 h9
              have hS2 : Cs [(⟨g1, k', none⟩, .string nk), (⟨g1, i', none⟩, .string ni), (⟨g2, k' * 7, none⟩, .int .i64 kk), (⟨g2, k' * 7 + 1, none⟩, .bool kn), (⟨g2, k' * 7 + 2, none⟩, .slice kna knl knc), (⟨g2, k' * 7 + 3, none⟩, .bool kd), (⟨g2, k' * 7 + 4, none⟩, .slice kda kdl kdc), (⟨g2, k' * 7 + 5, none⟩, .string ks), (⟨g2, k' * 7 + 6, none⟩, .int .i64 kr), (⟨g2, i' * 7, none⟩, .int .i64 ik), (⟨g2, i' * 7 + 1, none⟩, .bool inn), (⟨g2, i' * 7 + 2, none⟩, .slice ina inl inc), (⟨g2, i' * 7 + 3, none⟩, .bool idd), (⟨g2, i' * 7 + 4, none⟩, .slice ida idl idc), (⟨g2, i' * 7 + 5, none⟩, .string iss), (⟨g2, i' * 7 + 6, none⟩, .int .i64 ir)] W0 := by
                simp only [Cs, List.forall_mem_cons]
                exact ⟨z1, z2, v0, v1, v2, v3, v4, v5, v6, x0, x1, x2, x3, x4, x5, x6, fun _ h => by cases h⟩
              clear z1 v0 v1 v2 v3 v4 v5 v6
              refine wp_region_noPanic ?_
              refine wp_region_L (S := SG 33 [(⟨p9, 1, none⟩, .slice (some ⟨g1, 0, none⟩) names.length xc), (⟨p9, 2, none⟩, .slice (some ⟨g2, 0, none⟩) named.length yc)] [(⟨g1, k', none⟩, .string nk), (⟨g1, i', none⟩, .string ni), (⟨g2, k' * 7, none⟩, .int .i64 kk), (⟨g2, k' * 7 + 1, none⟩, .bool kn), (⟨g2, k' * 7 + 2, none⟩, .slice kna knl knc), (⟨g2, k' * 7 + 3, none⟩, .bool kd), (⟨g2, k' * 7 + 4, none⟩, .slice kda kdl kdc), (⟨g2, k' * 7 + 5, none⟩, .string ks), (⟨g2, k' * 7 + 6, none⟩, .int .i64 kr), (⟨g2, i' * 7, none⟩, .int .i64 ik), (⟨g2, i' * 7 + 1, none⟩, .bool inn), (⟨g2, i' * 7 + 2, none⟩, .slice ina inl inc), (⟨g2, i' * 7 + 3, none⟩, .bool idd), (⟨g2, i' * 7 + 4, none⟩, .slice ida idl idc), (⟨g2, i' * 7 + 5, none⟩, .string iss), (⟨g2, i' * 7 + 6, none⟩, .int .i64 ir)]) (by kernel_rfl) ?_
              rw [← hW0]
              clear hW0
              refine wpAnyL_take (T := fun _ => True) (i := 0) (v := ?vvg0) rfl (by kernel_rfl) (by kernel_rfl) (by kernel_rfl) (fun _ _ _ h => h) (fun L W => SG.put (by decide)) (fun _ _ _ _ _ => trivial) (Closed.of_B (by kernel_rfl)) (Or.inl ⟨by kernel_rfl, ?hyg0⟩) (SG.mk hS1 (fun _ => hS2)) ?restg0
              case hyg0 => (intro w _; go_simp; with_reducible rfl)
              go_simp
              refine wpAnyL_take (T := fun W => Cs [(⟨p9, 1, none⟩, .slice (some ⟨g1, 0, none⟩) names.length xc), (⟨p9, 2, none⟩, .slice (some ⟨g2, 0, none⟩) named.length yc)] W) (i := 1) (v := ?vvg1) rfl (by kernel_rfl) (by kernel_rfl) (by kernel_rfl) (fun _ _ _ h => h) (fun L W => SG.put (by decide)) (fun L W hcl hl hS => hS.hd) (Closed.of_B (by kernel_rfl)) (Or.inl ⟨by kernel_rfl, ?hyg1⟩) (SG.mk hS1 (fun _ => hS2)) ?restg1
              case hyg1 => (intro W hW; simp only [Cs, List.forall_mem_cons] at hW; obtain ⟨m0, m1, -⟩ := hW; go_simp; with_reducible rfl)
              go_simp
              refine wpAnyL_take (T := fun _ => True) (i := 2) (v := ?vvg2) rfl (by kernel_rfl) (by kernel_rfl) (by kernel_rfl) (fun _ _ _ h => h) (fun L W => SG.put (by decide)) (fun _ _ _ _ _ => trivial) (Closed.of_B (by kernel_rfl)) (Or.inl ⟨by kernel_rfl, ?hyg2⟩) (SG.mk hS1 (fun _ => hS2)) ?restg2
              case hyg2 => (intro w _; go_simp; with_reducible rfl)
              go_simp
              refine wpAnyL_take (T := fun _ => True) (i := 3) (v := ?vvg3) rfl (by kernel_rfl) (by kernel_rfl) (by kernel_rfl) (fun _ _ _ h => h) (fun L W => SG.put (by decide)) (fun _ _ _ _ _ => trivial) (Closed.of_B (by kernel_rfl)) (Or.inl ⟨by kernel_rfl, ?hyg3⟩) (SG.mk hS1 (fun _ => hS2)) ?restg3
              case hyg3 => (intro w _; go_simp; with_reducible rfl)
              go_simp
              refine wpAnyL_take (T := fun W => Cs [(⟨p9, 1, none⟩, .slice (some ⟨g1, 0, none⟩) names.length xc), (⟨p9, 2, none⟩, .slice (some ⟨g2, 0, none⟩) named.length yc)] W) (i := 4) (v := ?vvg4) rfl (by kernel_rfl) (by kernel_rfl) (by kernel_rfl) (fun _ _ _ h => h) (fun L W => SG.put (by decide)) (fun L W hcl hl hS => hS.hd) (Closed.of_B (by kernel_rfl)) (Or.inl ⟨by kernel_rfl, ?hyg4⟩) (SG.mk hS1 (fun _ => hS2)) ?restg4
              case hyg4 => (intro W hW; simp only [Cs, List.forall_mem_cons] at hW; obtain ⟨m0, m1, -⟩ := hW; go_simp; with_reducible rfl)
              go_simp
              refine wpAnyL_take (T := fun _ => True) (i := 5) (v := ?vvg5) rfl (by kernel_rfl) (by kernel_rfl) (by kernel_rfl) (fun _ _ _ h => h) (fun L W => SG.put (by decide)) (fun _ _ _ _ _ => trivial) (Closed.of_B (by kernel_rfl)) (Or.inl ⟨by kernel_rfl, ?hyg5⟩) (SG.mk hS1 (fun _ => hS2)) ?restg5
              case hyg5 => (intro w _; go_simp; with_reducible rfl)
              go_simp
              refine wpAnyL_take (T := fun _ => True) (i := 6) (v := ?vvg6) rfl (by kernel_rfl) (by kernel_rfl) (by kernel_rfl) (fun _ _ _ h => h) (fun L W => SG.put (by decide)) (fun _ _ _ _ _ => trivial) (Closed.of_B (by kernel_rfl)) (Or.inl ⟨by kernel_rfl, ?hyg6⟩) (SG.mk hS1 (fun _ => hS2)) ?restg6
              case hyg6 => (intro w _; go_simp; with_reducible rfl)
              go_simp
              refine wpAnyL_take (T := fun W => Cs [(⟨p9, 1, none⟩, .slice (some ⟨g1, 0, none⟩) names.length xc), (⟨p9, 2, none⟩, .slice (some ⟨g2, 0, none⟩) named.length yc)] W) (i := 7) (v := ?vvg7) rfl (by kernel_rfl) (by kernel_rfl) (by kernel_rfl) (fun _ _ _ h => h) (fun L W => SG.put (by decide)) (fun L W hcl hl hS => hS.hd) (Closed.of_B (by kernel_rfl)) (Or.inl ⟨by kernel_rfl, ?hyg7⟩) (SG.mk hS1 (fun _ => hS2)) ?restg7
              case hyg7 => (intro W hW; simp only [Cs, List.forall_mem_cons] at hW; obtain ⟨m0, m1, -⟩ := hW; go_simp; with_reducible rfl)
              go_simp
              refine wpAnyL_take (T := fun _ => True) (i := 8) (v := ?vvg8) rfl (by kernel_rfl) (by kernel_rfl) (by kernel_rfl) (fun _ _ _ h => h) (fun L W => SG.put (by decide)) (fun _ _ _ _ _ => trivial) (Closed.of_B (by kernel_rfl)) (Or.inl ⟨by kernel_rfl, ?hyg8⟩) (SG.mk hS1 (fun _ => hS2)) ?restg8
              case hyg8 => (intro w _; go_simp; with_reducible rfl)
              go_simp
              refine wpAnyL_take (T := fun _ => True) (i := 9) (v := ?vvg9) rfl (by kernel_rfl) (by kernel_rfl) (by kernel_rfl) (fun _ _ _ h => h) (fun L W => SG.put (by decide)) (fun _ _ _ _ _ => trivial) (Closed.of_B (by kernel_rfl)) (Or.inl ⟨by kernel_rfl, ?hyg9⟩) (SG.mk hS1 (fun _ => hS2)) ?restg9
              case hyg9 => (intro w _; go_simp; with_reducible rfl)
              go_simp
              refine wpAnyL_take (T := fun W => Cs [(⟨p9, 1, none⟩, .slice (some ⟨g1, 0, none⟩) names.length xc), (⟨p9, 2, none⟩, .slice (some ⟨g2, 0, none⟩) named.length yc)] W) (i := 10) (v := ?vvg10) rfl (by kernel_rfl) (by kernel_rfl) (by kernel_rfl) (fun _ _ _ h => h) (fun L W => SG.put (by decide)) (fun L W hcl hl hS => hS.hd) (Closed.of_B (by kernel_rfl)) (Or.inl ⟨by kernel_rfl, ?hyg10⟩) (SG.mk hS1 (fun _ => hS2)) ?restg10
              case hyg10 => (intro W hW; simp only [Cs, List.forall_mem_cons] at hW; obtain ⟨m0, m1, -⟩ := hW; go_simp; with_reducible rfl)
              go_simp
              refine wpAnyL_take (T := fun _ => True) (i := 11) (v := ?vvg11) rfl (by kernel_rfl) (by kernel_rfl) (by kernel_rfl) (fun _ _ _ h => h) (fun L W => SG.put (by decide)) (fun _ _ _ _ _ => trivial) (Closed.of_B (by kernel_rfl)) (Or.inl ⟨by kernel_rfl, ?hyg11⟩) (SG.mk hS1 (fun _ => hS2)) ?restg11
              case hyg11 => (intro w _; go_simp; with_reducible rfl)
              go_simp
              refine wpAnyL_take (T := fun _ => True) (i := 12) (v := ?vvg12) rfl (by kernel_rfl) (by kernel_rfl) (by kernel_rfl) (fun _ _ _ h => h) (fun L W => SG.put (by decide)) (fun _ _ _ _ _ => trivial) (Closed.of_B (by kernel_rfl)) (Or.inl ⟨by kernel_rfl, ?hyg12⟩) (SG.mk hS1 (fun _ => hS2)) ?restg12
              case hyg12 => (intro w _; go_simp; with_reducible rfl)
              go_simp
              refine wpAnyL_take (T := fun W => Cs [(⟨p9, 1, none⟩, .slice (some ⟨g1, 0, none⟩) names.length xc), (⟨p9, 2, none⟩, .slice (some ⟨g2, 0, none⟩) named.length yc)] W) (i := 13) (v := ?vvg13) rfl (by kernel_rfl) (by kernel_rfl) (by kernel_rfl) (fun _ _ _ h => h) (fun L W => SG.put (by decide)) (fun L W hcl hl hS => hS.hd) (Closed.of_B (by kernel_rfl)) (Or.inl ⟨by kernel_rfl, ?hyg13⟩) (SG.mk hS1 (fun _ => hS2)) ?restg13
              case hyg13 => (intro W hW; simp only [Cs, List.forall_mem_cons] at hW; obtain ⟨m0, m1, -⟩ := hW; go_simp; with_reducible rfl)
              go_simp
              refine wpAnyL_take (T := fun _ => True) (i := 14) (v := ?vvg14) rfl (by kernel_rfl) (by kernel_rfl) (by kernel_rfl) (fun _ _ _ h => h) (fun L W => SG.put (by decide)) (fun _ _ _ _ _ => trivial) (Closed.of_B (by kernel_rfl)) (Or.inl ⟨by kernel_rfl, ?hyg14⟩) (SG.mk hS1 (fun _ => hS2)) ?restg14
              case hyg14 => (intro w _; go_simp; with_reducible rfl)
              go_simp
              refine wpAnyL_take (T := fun _ => True) (i := 15) (v := ?vvg15) rfl (by kernel_rfl) (by kernel_rfl) (by kernel_rfl) (fun _ _ _ h => h) (fun L W => SG.put (by decide)) (fun _ _ _ _ _ => trivial) (Closed.of_B (by kernel_rfl)) (Or.inl ⟨by kernel_rfl, ?hyg15⟩) (SG.mk hS1 (fun _ => hS2)) ?restg15
              case hyg15 => (intro w _; go_simp; with_reducible rfl)
              go_simp
              refine wpAnyL_take (T := fun W => Cs [(⟨g1, k', none⟩, .string nk), (⟨g1, i', none⟩, .string ni), (⟨g2, k' * 7, none⟩, .int .i64 kk), (⟨g2, k' * 7 + 1, none⟩, .bool kn), (⟨g2, k' * 7 + 2, none⟩, .slice kna knl knc), (⟨g2, k' * 7 + 3, none⟩, .bool kd), (⟨g2, k' * 7 + 4, none⟩, .slice kda kdl kdc), (⟨g2, k' * 7 + 5, none⟩, .string ks), (⟨g2, k' * 7 + 6, none⟩, .int .i64 kr), (⟨g2, i' * 7, none⟩, .int .i64 ik), (⟨g2, i' * 7 + 1, none⟩, .bool inn), (⟨g2, i' * 7 + 2, none⟩, .slice ina inl inc), (⟨g2, i' * 7 + 3, none⟩, .bool idd), (⟨g2, i' * 7 + 4, none⟩, .slice ida idl idc), (⟨g2, i' * 7 + 5, none⟩, .string iss), (⟨g2, i' * 7 + 6, none⟩, .int .i64 ir)] W) (i := 16) (v := ?vvg16) rfl (by kernel_rfl) (by kernel_rfl) (by kernel_rfl) (fun _ _ _ h => h) (fun L W => SG.put (by decide)) (fun L W hcl hl hS => hS.el (hcl.notYet (by kernel_rfl) (getD_false hl))) (Closed.of_B (by kernel_rfl)) (Or.inl ⟨by kernel_rfl, ?hyg16⟩) (SG.mk hS1 (fun _ => hS2)) ?restg16
              case hyg16 => (intro W hW; simp only [Cs, List.forall_mem_cons] at hW; obtain ⟨m0, m1, m2, m3, m4, m5, m6, m7, m8, m9, m10, m11, m12, m13, m14, m15, -⟩ := hW; go_simp; with_reducible rfl)
              go_simp
              refine wpAnyL_take (T := fun _ => True) (i := 17) (v := ?vvg17) rfl (by kernel_rfl) (by kernel_rfl) (by kernel_rfl) (fun _ _ _ h => h) (fun L W => SG.put (by decide)) (fun _ _ _ _ _ => trivial) (Closed.of_B (by kernel_rfl)) (Or.inl ⟨by kernel_rfl, ?hyg17⟩) (SG.mk hS1 (fun _ => hS2)) ?restg17
              case hyg17 => (intro w _; go_simp; with_reducible rfl)
              go_simp
              refine wpAnyL_take (T := fun W => Cs [(⟨p9, 1, none⟩, .slice (some ⟨g1, 0, none⟩) names.length xc), (⟨p9, 2, none⟩, .slice (some ⟨g2, 0, none⟩) named.length yc)] W) (i := 18) (v := ?vvg18) rfl (by kernel_rfl) (by kernel_rfl) (by kernel_rfl) (fun _ _ _ h => h) (fun L W => SG.put (by decide)) (fun L W hcl hl hS => hS.hd) (Closed.of_B (by kernel_rfl)) (Or.inl ⟨by kernel_rfl, ?hyg18⟩) (SG.mk hS1 (fun _ => hS2)) ?restg18
              case hyg18 => (intro W hW; simp only [Cs, List.forall_mem_cons] at hW; obtain ⟨m0, m1, -⟩ := hW; go_simp; with_reducible rfl)
              go_simp
              refine wpAnyL_take (T := fun _ => True) (i := 19) (v := ?vvg19) rfl (by kernel_rfl) (by kernel_rfl) (by kernel_rfl) (fun _ _ _ h => h) (fun L W => SG.put (by decide)) (fun _ _ _ _ _ => trivial) (Closed.of_B (by kernel_rfl)) (Or.inl ⟨by kernel_rfl, ?hyg19⟩) (SG.mk hS1 (fun _ => hS2)) ?restg19
              case hyg19 => (intro w _; go_simp; with_reducible rfl)
              go_simp
              refine wpAnyL_take (T := fun _ => True) (i := 20) (v := ?vvg20) rfl (by kernel_rfl) (by kernel_rfl) (by kernel_rfl) (fun _ _ _ h => h) (fun L W => SG.put (by decide)) (fun _ _ _ _ _ => trivial) (Closed.of_B (by kernel_rfl)) (Or.inl ⟨by kernel_rfl, ?hyg20⟩) (SG.mk hS1 (fun _ => hS2)) ?restg20
              case hyg20 => (intro w _; go_simp; with_reducible rfl)
              go_simp
              refine wpAnyL_take (T := fun W => Cs [(⟨g1, k', none⟩, .string nk), (⟨g1, i', none⟩, .string ni), (⟨g2, k' * 7, none⟩, .int .i64 kk), (⟨g2, k' * 7 + 1, none⟩, .bool kn), (⟨g2, k' * 7 + 2, none⟩, .slice kna knl knc), (⟨g2, k' * 7 + 3, none⟩, .bool kd), (⟨g2, k' * 7 + 4, none⟩, .slice kda kdl kdc), (⟨g2, k' * 7 + 5, none⟩, .string ks), (⟨g2, k' * 7 + 6, none⟩, .int .i64 kr), (⟨g2, i' * 7, none⟩, .int .i64 ik), (⟨g2, i' * 7 + 1, none⟩, .bool inn), (⟨g2, i' * 7 + 2, none⟩, .slice ina inl inc), (⟨g2, i' * 7 + 3, none⟩, .bool idd), (⟨g2, i' * 7 + 4, none⟩, .slice ida idl idc), (⟨g2, i' * 7 + 5, none⟩, .string iss), (⟨g2, i' * 7 + 6, none⟩, .int .i64 ir)] W) (i := 21) (v := ?vvg21) rfl (by kernel_rfl) (by kernel_rfl) (by kernel_rfl) (fun _ _ _ h => h) (fun L W => SG.put (by decide)) (fun L W hcl hl hS => hS.el (hcl.notYet (by kernel_rfl) (getD_false hl))) (Closed.of_B (by kernel_rfl)) (Or.inl ⟨by kernel_rfl, ?hyg21⟩) (SG.mk hS1 (fun _ => hS2)) ?restg21
              case hyg21 => (intro W hW; simp only [Cs, List.forall_mem_cons] at hW; obtain ⟨m0, m1, m2, m3, m4, m5, m6, m7, m8, m9, m10, m11, m12, m13, m14, m15, -⟩ := hW; go_simp; with_reducible rfl)
              go_simp
              refine wpAnyL_take (T := fun _ => True) (i := 22) (v := ?vvg22) rfl (by kernel_rfl) (by kernel_rfl) (by kernel_rfl) (fun _ _ _ h => h) (fun L W => SG.put (by decide)) (fun _ _ _ _ _ => trivial) (Closed.of_B (by kernel_rfl)) (Or.inl ⟨by kernel_rfl, ?hyg22⟩) (SG.mk hS1 (fun _ => hS2)) ?restg22
              case hyg22 => (intro w _; go_simp; with_reducible rfl)
              go_simp
              refine wpAnyL_take (T := fun W => Cs [(⟨p9, 1, none⟩, .slice (some ⟨g1, 0, none⟩) names.length xc), (⟨p9, 2, none⟩, .slice (some ⟨g2, 0, none⟩) named.length yc)] W) (i := 23) (v := ?vvg23) rfl (by kernel_rfl) (by kernel_rfl) (by kernel_rfl) (fun _ _ _ h => h) (fun L W => SG.put (by decide)) (fun L W hcl hl hS => hS.hd) (Closed.of_B (by kernel_rfl)) (Or.inl ⟨by kernel_rfl, ?hyg23⟩) (SG.mk hS1 (fun _ => hS2)) ?restg23
              case hyg23 => (intro W hW; simp only [Cs, List.forall_mem_cons] at hW; obtain ⟨m0, m1, -⟩ := hW; go_simp; with_reducible rfl)
              go_simp
              refine wpAnyL_take (T := fun _ => True) (i := 24) (v := ?vvg24) rfl (by kernel_rfl) (by kernel_rfl) (by kernel_rfl) (fun _ _ _ h => h) (fun L W => SG.put (by decide)) (fun _ _ _ _ _ => trivial) (Closed.of_B (by kernel_rfl)) (Or.inl ⟨by kernel_rfl, ?hyg24⟩) (SG.mk hS1 (fun _ => hS2)) ?restg24
              case hyg24 => (intro w _; go_simp; with_reducible rfl)
              go_simp
              refine wpAnyL_take (T := fun _ => True) (i := 25) (v := ?vvg25) rfl (by kernel_rfl) (by kernel_rfl) (by kernel_rfl) (fun _ _ _ h => h) (fun L W => SG.put (by decide)) (fun _ _ _ _ _ => trivial) (Closed.of_B (by kernel_rfl)) (Or.inl ⟨by kernel_rfl, ?hyg25⟩) (SG.mk hS1 (fun _ => hS2)) ?restg25
              case hyg25 => (intro w _; go_simp; with_reducible rfl)
              go_simp
              refine wpAnyL_take (T := fun W => Cs [(⟨g1, k', none⟩, .string nk), (⟨g1, i', none⟩, .string ni), (⟨g2, k' * 7, none⟩, .int .i64 kk), (⟨g2, k' * 7 + 1, none⟩, .bool kn), (⟨g2, k' * 7 + 2, none⟩, .slice kna knl knc), (⟨g2, k' * 7 + 3, none⟩, .bool kd), (⟨g2, k' * 7 + 4, none⟩, .slice kda kdl kdc), (⟨g2, k' * 7 + 5, none⟩, .string ks), (⟨g2, k' * 7 + 6, none⟩, .int .i64 kr), (⟨g2, i' * 7, none⟩, .int .i64 ik), (⟨g2, i' * 7 + 1, none⟩, .bool inn), (⟨g2, i' * 7 + 2, none⟩, .slice ina inl inc), (⟨g2, i' * 7 + 3, none⟩, .bool idd), (⟨g2, i' * 7 + 4, none⟩, .slice ida idl idc), (⟨g2, i' * 7 + 5, none⟩, .string iss), (⟨g2, i' * 7 + 6, none⟩, .int .i64 ir)] W) (i := 26) (v := ?vvg26) rfl (by kernel_rfl) (by kernel_rfl) (by kernel_rfl) (fun _ _ _ h => h) (fun L W => SG.put (by decide)) (fun L W hcl hl hS => hS.el (hcl.notYet (by kernel_rfl) (getD_false hl))) (Closed.of_B (by kernel_rfl)) (Or.inl ⟨by kernel_rfl, ?hyg26⟩) (SG.mk hS1 (fun _ => hS2)) ?restg26
              case hyg26 => (intro W hW; simp only [Cs, List.forall_mem_cons] at hW; obtain ⟨m0, m1, m2, m3, m4, m5, m6, m7, m8, m9, m10, m11, m12, m13, m14, m15, -⟩ := hW; go_simp; with_reducible rfl)
              go_simp
              refine wpAnyL_take (T := fun _ => True) (i := 27) (v := ?vvg27) rfl (by kernel_rfl) (by kernel_rfl) (by kernel_rfl) (fun _ _ _ h => h) (fun L W => SG.put (by decide)) (fun _ _ _ _ _ => trivial) (Closed.of_B (by kernel_rfl)) (Or.inl ⟨by kernel_rfl, ?hyg27⟩) (SG.mk hS1 (fun _ => hS2)) ?restg27
              case hyg27 => (intro w _; go_simp; with_reducible rfl)
              go_simp
              refine wpAnyL_take (T := fun W => Cs [(⟨p9, 1, none⟩, .slice (some ⟨g1, 0, none⟩) names.length xc), (⟨p9, 2, none⟩, .slice (some ⟨g2, 0, none⟩) named.length yc)] W) (i := 28) (v := ?vvg28) rfl (by kernel_rfl) (by kernel_rfl) (by kernel_rfl) (fun _ _ _ h => h) (fun L W => SG.put (by decide)) (fun L W hcl hl hS => hS.hd) (Closed.of_B (by kernel_rfl)) (Or.inl ⟨by kernel_rfl, ?hyg28⟩) (SG.mk hS1 (fun _ => hS2)) ?restg28
              case hyg28 => (intro W hW; simp only [Cs, List.forall_mem_cons] at hW; obtain ⟨m0, m1, -⟩ := hW; go_simp; with_reducible rfl)
              go_simp
              refine wpAnyL_take (T := fun _ => True) (i := 29) (v := ?vvg29) rfl (by kernel_rfl) (by kernel_rfl) (by kernel_rfl) (fun _ _ _ h => h) (fun L W => SG.put (by decide)) (fun _ _ _ _ _ => trivial) (Closed.of_B (by kernel_rfl)) (Or.inl ⟨by kernel_rfl, ?hyg29⟩) (SG.mk hS1 (fun _ => hS2)) ?restg29
              case hyg29 => (intro w _; go_simp; with_reducible rfl)
              go_simp
              refine wpAnyL_take (T := fun _ => True) (i := 30) (v := ?vvg30) rfl (by kernel_rfl) (by kernel_rfl) (by kernel_rfl) (fun _ _ _ h => h) (fun L W => SG.put (by decide)) (fun _ _ _ _ _ => trivial) (Closed.of_B (by kernel_rfl)) (Or.inl ⟨by kernel_rfl, ?hyg30⟩) (SG.mk hS1 (fun _ => hS2)) ?restg30
              case hyg30 => (intro w _; go_simp; with_reducible rfl)
              go_simp
              refine wpAnyL_take (T := fun W => Cs [(⟨g1, k', none⟩, .string nk), (⟨g1, i', none⟩, .string ni), (⟨g2, k' * 7, none⟩, .int .i64 kk), (⟨g2, k' * 7 + 1, none⟩, .bool kn), (⟨g2, k' * 7 + 2, none⟩, .slice kna knl knc), (⟨g2, k' * 7 + 3, none⟩, .bool kd), (⟨g2, k' * 7 + 4, none⟩, .slice kda kdl kdc), (⟨g2, k' * 7 + 5, none⟩, .string ks), (⟨g2, k' * 7 + 6, none⟩, .int .i64 kr), (⟨g2, i' * 7, none⟩, .int .i64 ik), (⟨g2, i' * 7 + 1, none⟩, .bool inn), (⟨g2, i' * 7 + 2, none⟩, .slice ina inl inc), (⟨g2, i' * 7 + 3, none⟩, .bool idd), (⟨g2, i' * 7 + 4, none⟩, .slice ida idl idc), (⟨g2, i' * 7 + 5, none⟩, .string iss), (⟨g2, i' * 7 + 6, none⟩, .int .i64 ir)] W) (i := 31) (v := ?vvg31) rfl (by kernel_rfl) (by kernel_rfl) (by kernel_rfl) (fun _ _ _ h => h) (fun L W => SG.put (by decide)) (fun L W hcl hl hS => hS.el (hcl.notYet (by kernel_rfl) (getD_false hl))) (Closed.of_B (by kernel_rfl)) (Or.inl ⟨by kernel_rfl, ?hyg31⟩) (SG.mk hS1 (fun _ => hS2)) ?restg31
              case hyg31 => (intro W hW; simp only [Cs, List.forall_mem_cons] at hW; obtain ⟨m0, m1, m2, m3, m4, m5, m6, m7, m8, m9, m10, m11, m12, m13, m14, m15, -⟩ := hW; go_simp; with_reducible rfl)
              go_simp
              refine wpAnyL_take (T := fun _ => True) (i := 32) (v := ?vvg32) rfl (by kernel_rfl) (by kernel_rfl) (by kernel_rfl) (fun _ _ _ h => h) (fun L W => SG.put (by decide)) (fun _ _ _ _ _ => trivial) (Closed.of_B (by kernel_rfl)) (Or.inl ⟨by kernel_rfl, ?hyg32⟩) (SG.mk hS1 (fun _ => hS2)) ?restg32
              case hyg32 => (intro w _; go_simp; with_reducible rfl)
              go_simp
              clear hS1 hS2
              refine wpAnyL_ready (rs := [33]) (by kernel_rfl) (by simp) ?_
              refine AllL.cons rfl (by kernel_rfl) (fun K hK => ?_) AllL.nil
              have f0 := o1.frozenAt i'
              go_simp
              have hs := o1.stored i' (.string nk)
              have ob := own_cast hs.1 rfl (show _ = (names.set i' nk).map Value.string by rw [List.map_set])
              have oc := o2.kept hs.2 (own_apart o2 o1 (by decide))
              have hd := (hs.2.block p9 (box_lt h9) (Ne.symm (own_box o1 h9 (by decide)))).trans h9
              have hbb := hb0.setCell (p := ⟨g1, i', none⟩) hg1 (.string nk)
              refine hK _ _ ⟨SG.mk (HH.out _ hd) (fun h => Bool.noConfusion ((show _ = true by kernel_rfl).symm.trans h)), ?_⟩
              clear hK K hs o1 o2 h9 hb0 f0 z2 x0 x1 x2 x3 x4 x5 x6
              generalize W0.setCell ⟨g1, i', none⟩ (.string nk) = W1 at *
              clear W0
              refine wpAnyL_take (T := fun _ => True) (i := 34) (v := ?vvg34) rfl (by kernel_rfl) (by kernel_rfl) (by kernel_rfl) (fun _ _ _ h => h) (fun L W => SG.put (by decide)) (fun _ _ _ _ _ => trivial) (Closed.of_B (by kernel_rfl)) (Or.inl ⟨by kernel_rfl, ?hyg34⟩) (SG.mk (HH.out _ hd) (fun h => Bool.noConfusion ((show _ = true by kernel_rfl).symm.trans h))) ?restg34
              case hyg34 => (intro w _; go_simp; with_reducible rfl)
              go_simp
              refine wpAnyL_ready (rs := [35]) (by kernel_rfl) (by simp) ?_
              refine AllL.cons rfl (by kernel_rfl) (fun K hK => ?_) AllL.nil
              have f0 := ob.frozenAt k'
              have z1 := own_str ob (by simp) (j := k') (by simpa using hk')
              go_simp
              have hs := ob.stored k' (.string ni)
              have o1 := own_cast hs.1 rfl (show _ = ((names.set i' nk).set k' ni).map Value.string by simp only [List.map_set])
              have o2 := oc.kept hs.2 (own_apart oc ob (by decide))
              have h9 := (hs.2.block p9 (box_lt hd) (Ne.symm (own_box ob hd (by decide)))).trans hd
              have hb0 := hbb.setCell (p := ⟨g1, k', none⟩) hg1 (.string ni)
              refine hK _ _ ⟨SG.mk (HH.out _ h9) (fun h => Bool.noConfusion ((show _ = true by kernel_rfl).symm.trans h)), ?_⟩
              clear hK K hs ob oc hd hbb f0 z1
              generalize W1.setCell ⟨g1, k', none⟩ (.string ni) = W2 at *
              clear W1
              refine wpAnyL_take (T := fun _ => True) (i := 36) (v := ?vvg36) rfl (by kernel_rfl) (by kernel_rfl) (by kernel_rfl) (fun _ _ _ h => h) (fun L W => SG.put (by decide)) (fun _ _ _ _ _ => trivial) (Closed.of_B (by kernel_rfl)) (Or.inl ⟨by kernel_rfl, ?hyg36⟩) (SG.mk (HH.out _ h9) (fun h => Bool.noConfusion ((show _ = true by kernel_rfl).symm.trans h))) ?restg36
              case hyg36 => (intro w _; go_simp; with_reducible rfl)
              go_simp
              refine wpAnyL_ready (rs := [37]) (by kernel_rfl) (by simp) ?_
              refine AllL.cons rfl (by kernel_rfl) (fun K hK => ?_) AllL.nil
              obtain ⟨g', e, x0, x1, x2, x3, x4, x5, x6⟩ := own_cells7v o2 (by simp) (n := i') him
              simp only [Value.ownBlock, Option.some.injEq] at e
              subst e
              have f0 := o2.frozenAt (i' * 7)
              have f1 := o2.frozenAt (i' * 7 + 1)
              have f2 := o2.frozenAt (i' * 7 + 2)
              have f3 := o2.frozenAt (i' * 7 + 3)
              have f4 := o2.frozenAt (i' * 7 + 4)
              have f5 := o2.frozenAt (i' * 7 + 5)
              have f6 := o2.frozenAt (i' * 7 + 6)
              go_simp
              have hs := own_set7 o2 (n := i') him ⟨kk, kn, kna, knl, knc, kd, kda, kdl, kdc, ks, kr⟩
              simp only at hs
              have ob := o1.kept hs.2 (own_apart o1 o2 (by decide))
              have hd := (hs.2.block p9 (box_lt h9) (Ne.symm (own_box o2 h9 (by decide)))).trans h9
              have hbb : Below wA.heap.size wA (((((((W2.setCell ⟨g2, i' * 7, none⟩ (.int .i64 kk)).setCell ⟨g2, i' * 7 + 1, none⟩ (.bool kn)).setCell ⟨g2, i' * 7 + 2, none⟩ (.slice kna knl knc)).setCell ⟨g2, i' * 7 + 3, none⟩ (.bool kd)).setCell ⟨g2, i' * 7 + 4, none⟩ (.slice kda kdl kdc)).setCell ⟨g2, i' * 7 + 5, none⟩ (.string ks)).setCell ⟨g2, i' * 7 + 6, none⟩ (.int .i64 kr)) := ((((((hb0.setCell (p := ⟨g2, i' * 7, none⟩) hg2 (.int .i64 kk)).setCell (p := ⟨g2, i' * 7 + 1, none⟩) hg2 (.bool kn)).setCell (p := ⟨g2, i' * 7 + 2, none⟩) hg2 (.slice kna knl knc)).setCell (p := ⟨g2, i' * 7 + 3, none⟩) hg2 (.bool kd)).setCell (p := ⟨g2, i' * 7 + 4, none⟩) hg2 (.slice kda kdl kdc)).setCell (p := ⟨g2, i' * 7 + 5, none⟩) hg2 (.string ks)).setCell (p := ⟨g2, i' * 7 + 6, none⟩) hg2 (.int .i64 kr)
              have oc := hs.1
              refine hK _ _ ⟨SG.mk (HH.out _ hd) (fun h => Bool.noConfusion ((show _ = true by kernel_rfl).symm.trans h)), ?_⟩
              clear hK K hs o2 o1 h9 hb0 x0 x1 x2 x3 x4 x5 x6 f0 f1 f2 f3 f4 f5 f6
              generalize ((((((W2.setCell ⟨g2, i' * 7, none⟩ (.int .i64 kk)).setCell ⟨g2, i' * 7 + 1, none⟩ (.bool kn)).setCell ⟨g2, i' * 7 + 2, none⟩ (.slice kna knl knc)).setCell ⟨g2, i' * 7 + 3, none⟩ (.bool kd)).setCell ⟨g2, i' * 7 + 4, none⟩ (.slice kda kdl kdc)).setCell ⟨g2, i' * 7 + 5, none⟩ (.string ks)).setCell ⟨g2, i' * 7 + 6, none⟩ (.int .i64 kr) = W3 at *
              clear W2
              refine wpAnyL_take (T := fun _ => True) (i := 38) (v := ?vvg38) rfl (by kernel_rfl) (by kernel_rfl) (by kernel_rfl) (fun _ _ _ h => h) (fun L W => SG.put (by decide)) (fun _ _ _ _ _ => trivial) (Closed.of_B (by kernel_rfl)) (Or.inl ⟨by kernel_rfl, ?hyg38⟩) (SG.mk (HH.out _ hd) (fun h => Bool.noConfusion ((show _ = true by kernel_rfl).symm.trans h))) ?restg38
              case hyg38 => (intro w _; go_simp; with_reducible rfl)
              go_simp
              refine wpAnyL_ready (rs := [39]) (by kernel_rfl) (by simp) ?_
              refine AllL.cons rfl (by kernel_rfl) (fun K hK => ?_) AllL.nil
              obtain ⟨g', e, x0, x1, x2, x3, x4, x5, x6⟩ := own_cells7v oc (by simp) (n := k') (by simpa using hkm)
              simp only [Value.ownBlock, Option.some.injEq] at e
              subst e
              have f0 := oc.frozenAt (k' * 7)
              have f1 := oc.frozenAt (k' * 7 + 1)
              have f2 := oc.frozenAt (k' * 7 + 2)
              have f3 := oc.frozenAt (k' * 7 + 3)
              have f4 := oc.frozenAt (k' * 7 + 4)
              have f5 := oc.frozenAt (k' * 7 + 5)
              have f6 := oc.frozenAt (k' * 7 + 6)
              go_simp
              have hs := own_set7 oc (n := k') (by simpa using hkm) ⟨ik, inn, ina, inl, inc, idd, ida, idl, idc, iss, ir⟩
              simp only at hs
              have o1 := ob.kept hs.2 (own_apart ob oc (by decide))
              have h9 := (hs.2.block p9 (box_lt hd) (Ne.symm (own_box oc hd (by decide)))).trans hd
              have hb0 : Below wA.heap.size wA (((((((W3.setCell ⟨g2, k' * 7, none⟩ (.int .i64 ik)).setCell ⟨g2, k' * 7 + 1, none⟩ (.bool inn)).setCell ⟨g2, k' * 7 + 2, none⟩ (.slice ina inl inc)).setCell ⟨g2, k' * 7 + 3, none⟩ (.bool idd)).setCell ⟨g2, k' * 7 + 4, none⟩ (.slice ida idl idc)).setCell ⟨g2, k' * 7 + 5, none⟩ (.string iss)).setCell ⟨g2, k' * 7 + 6, none⟩ (.int .i64 ir)) := ((((((hbb.setCell (p := ⟨g2, k' * 7, none⟩) hg2 (.int .i64 ik)).setCell (p := ⟨g2, k' * 7 + 1, none⟩) hg2 (.bool inn)).setCell (p := ⟨g2, k' * 7 + 2, none⟩) hg2 (.slice ina inl inc)).setCell (p := ⟨g2, k' * 7 + 3, none⟩) hg2 (.bool idd)).setCell (p := ⟨g2, k' * 7 + 4, none⟩) hg2 (.slice ida idl idc)).setCell (p := ⟨g2, k' * 7 + 5, none⟩) hg2 (.string iss)).setCell (p := ⟨g2, k' * 7 + 6, none⟩) hg2 (.int .i64 ir)
              have o2 := hs.1
              refine hK _ _ ⟨SG.mk (HH.out _ h9) (fun h => Bool.noConfusion ((show _ = true by kernel_rfl).symm.trans h)), ?_⟩
              clear hK K hs oc ob hd hbb x0 x1 x2 x3 x4 x5 x6 f0 f1 f2 f3 f4 f5 f6
              generalize ((((((W3.setCell ⟨g2, k' * 7, none⟩ (.int .i64 ik)).setCell ⟨g2, k' * 7 + 1, none⟩ (.bool inn)).setCell ⟨g2, k' * 7 + 2, none⟩ (.slice ina inl inc)).setCell ⟨g2, k' * 7 + 3, none⟩ (.bool idd)).setCell ⟨g2, k' * 7 + 4, none⟩ (.slice ida idl idc)).setCell ⟨g2, k' * 7 + 5, none⟩ (.string iss)).setCell ⟨g2, k' * 7 + 6, none⟩ (.int .i64 ir) = W4 at *
              clear W3
              refine wpAnyL_done (by kernel_rfl) ?_ _
              refine NoPanic.normal ?_
              have hbw := ext_trans hbc hb0
              have hzz := (hb0.block _ (box_lt hz1)).trans hz1
              obtain ⟨y0', y1', y2', y3', -, -⟩ := box4 hzz
              obtain ⟨d0, d1, d2, -, -⟩ := box3 h9
              have hperm := zip_swap names named HNM.out hi' hk'
              rw [HNK.out, HNI.out, HXK.out, HXI.out] at hperm
              obtain ⟨st', hbs, hrel, hnd⟩ := bind_order (fun x hx => HMU.out x.2 (List.of_mem_zip hx).2) hperm HBI.out
              have hcall := binds_rel (.slice pa ps.length pc) (.slice da ds.length dc) (.slice la l.length lc) (.slice (some ⟨g1, 0, none⟩) names.length xc) (.slice (some ⟨g2, 0, none⟩) named.length yc) _ _ _ _ ps ds l ((names.set i' nk).set k' ni) _ ⟨vals, nms, nmd⟩ st' rest W4
                (HV.out.below hbw) (HD.out.below hbw) (HL.out.below hbw) (names_row (own_cast o1 (by simp) rfl)) (RowS.of_own (own_cast o2 (by simp) rfl)) HP0.out HSN.out (by simpa using HNM.out) (by simpa using hlm) HLU.out
                (fun x hx => by
                  rcases List.mem_or_eq_of_mem_set hx with hx | rfl
                  · rcases List.mem_or_eq_of_mem_set hx with hx | rfl
                    · exact HMU.out x hx
                    · rw [← HXK.out]; exact HMU.out _ (List.getElem_mem _)
                  · rw [← HXI.out]; exact HMU.out _ (List.getElem_mem _)) HSZ.out
                (fun x hx => by
                  rcases List.mem_or_eq_of_mem_set hx with hx | rfl
                  · rcases List.mem_or_eq_of_mem_set hx with hx | rfl
                    · exact HNS.out x hx
                    · rw [← HNK.out]; exact HNS.out _ (List.getElem_mem _)
                  · rw [← HNI.out]; exact HNS.out _ (List.getElem_mem _))
                (HBAc.out.below hb0) hbs hrel hnd (fun x hx => (HGV.out.1 x hx).below hbw) (fun x hx => (HGV.out.2.1 x hx).below hbw) (fun x hx => (HGV.out.2.2 x hx).below hbw)
              have HC := Lib.hid hcall
              clear hcall hbs hrel hnd hperm o1 o2 hzz
              go_wp2_with fail
              refine HC.out.mono ?_
              rintro e w9 ⟨rfl, hb9⟩
              go_wp2
              go_ret
              exact ⟨rfl, ext_trans hbw hb9⟩
          · have i1 : ¬ ((names.length : Int) > 1) := by omega
            go_wp2
            go_ret
            exact ⟨rfl, hbc⟩
  · as_aux_lemma =>
      have hcb : (c != 0) = true := by simpa using hc
      obtain ⟨rfl, -⟩ : t = ⟨#[]⟩ ∧ True := by
        rcases HRES.out with h | h
        · exact ⟨h.2.1, trivial⟩
        · exact absurd h.1 hc
      clear hc HRES HFF
      go_wp2
      go_ret
      exact ⟨rfl, hb3⟩
end Go.Proofs.Ytbickehhnkhabaa
