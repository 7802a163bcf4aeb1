/- Walk: the positional arguments of a binding. -/
import Derived.Test.YtbickehhnkhabaaBd5
import Derived.Test.YtbickehhnkhabaaBindLaw
import Derived.Deep.DeepCutAuto
import Derived.Deep.CutBlock
namespace Go.Proofs.Ytbickehhnkhabaa
open Go.RowKit

/-- A binding in memory: its parameters, the function's name, Values, Rest, Names, Named. -/
def bdO (pv : Value) (fn : ByteArray) (vv rv nv mv : Value) : Obj := .cells #[pv, .string fn, vv, rv, nv, mv] 76 (0, 0)

theorem lead_stop : ∀ (ps : List Par) (n : Nat), n ≤ leadN ps → ∀ h : n < ps.length, ps[n].k = 0 → n < leadN ps := by
  intro ps
  induction ps with
  | nil => intro n _ h; simp at h
  | cons p ps ih =>
    intro n hn h h0
    by_cases hp : p.k = 0
    · have e : leadN (p :: ps) = leadN ps + 1 := by
        unfold leadN; rw [List.takeWhile_cons_of_pos (by simpa using hp)]; rfl
      rw [e] at hn ⊢
      cases n with
      | zero => omega
      | succ n =>
        have := ih n (by omega) (by simpa using h) (by simpa using h0)
        omega
    · have e : leadN (p :: ps) = 0 := by
        unfold leadN; rw [List.takeWhile_cons_of_neg (by simpa using hp)]; rfl
      rw [e] at hn
      obtain rfl : n = 0 := by omega
      exact absurd h0 hp

/-- The message of the positional arguments. -/
def posT (fn : ByteArray) (ps : List Par) (l : List Val) : ByteArray :=
  if startRest ps l ≠ [] ∧ starOk ps = false then fn ++ ⟨#[40, 41, 32, 103, 111, 116, 32, 116, 111, 111, 32, 109, 97, 110, 121, 32, 97, 114, 103, 117, 109, 101, 110, 116, 115]⟩ else ⟨#[]⟩

theorem sizeVal : ∀ W, (sizeOf 58).run Try.prog W = .ok 7 W := by
  intro W
  obtain ⟨i0, hi, _, hs, _⟩ := info_parts infoVal
  simp [sizeOf, typeInfo, hi, hs]

theorem bdO_set {w : World} {N : Nat} {a0 a1 a2 a3 a4 a5 : Value} {t : TypeId} (h : w.heap[N]? = some (.cells #[a0, a1, a2, a3, a4, a5] t (0, 0))) (v : Value) :
    (w.setCell ⟨N, 3, none⟩ v).heap[N]? = some (.cells #[a0, a1, a2, v, a4, a5] t (0, 0)) := by
  simp [World.setCell, Array.getElem?_modify, h]

theorem star_none {ps : List Par} (h : (ps.findIdx? fun p => p.k == 1) = none) : starOk ps = false := by
  unfold starOk
  have : ps.find? (fun p => p.k == 1) = none := by
    rw [List.find?_eq_none]
    rw [List.findIdx?_eq_none_iff] at h
    intro x hx
    simpa using h x hx
  rw [this]
theorem star_some {ps : List Par} {i : Nat} (h : (ps.findIdx? fun p => p.k == 1) = some i) : ∃ hi : i < ps.length, starOk ps = !strE ps[i].s := by
  rw [List.findIdx?_eq_some_iff_getElem] at h
  obtain ⟨hi, h1, h2⟩ := h
  refine ⟨hi, ?_⟩
  unfold starOk
  have : ps.find? (fun p => p.k == 1) = some ps[i] := by
    rw [List.find?_eq_some_iff_getElem]
    exact ⟨h1, i, hi, rfl, fun j hj => by simpa using h2 j hj⟩
  rw [this]

def valsAtN (l : List Val) (m n : Nat) : List Val := l.take n ++ List.replicate (m - n) unbV

theorem flat_set : ∀ (L : List Val) (n : Nat) (x : Val), n < L.length →
    (((((((L.flatMap valC).set (n * 7) (.int .i64 x.k)).set (n * 7 + 1) (.bool x.n)).set (n * 7 + 2) (.slice x.na x.nl x.nc)).set (n * 7 + 3) (.bool x.d)).set (n * 7 + 4) (.slice x.da x.dl x.dc)).set (n * 7 + 5) (.string x.s)).set (n * 7 + 6) (.int .i64 x.r) = (L.set n x).flatMap valC := by
  intro L
  induction L with
  | nil => intro n x h; simp at h
  | cons v L ih =>
    intro n x h
    rw [List.flatMap_cons]
    cases n with
    | zero => rfl
    | succ n =>
      have e : ∀ (i : Nat) (c : Value) (R : List Value), (valC v ++ R).set ((n + 1) * 7 + i) c = valC v ++ R.set (n * 7 + i) c := fun i c R => by
        rw [List.set_append_right _ _ (by rw [valC_length]; omega), valC_length, show (n + 1) * 7 + i - 7 = n * 7 + i by omega]
      have e0 : ∀ (c : Value) (R : List Value), (valC v ++ R).set ((n + 1) * 7) c = valC v ++ R.set (n * 7) c := fun c R => e 0 c R
      rw [e0, e, e, e, e, e, e, ih n x (by simpa using h), List.set_cons_succ, List.flatMap_cons]

theorem own_set7 {w : World} {base g m c n : Nat} {L : List Val} (h : w.ownsRow base 58 7 (.slice (some ⟨g, 0, none⟩) m c) m (L.flatMap valC)) (hn : n < L.length) (x : Val) :
    (((((((w.setCell ⟨g, n * 7, none⟩ (.int .i64 x.k)).setCell ⟨g, n * 7 + 1, none⟩ (.bool x.n)).setCell ⟨g, n * 7 + 2, none⟩ (.slice x.na x.nl x.nc)).setCell ⟨g, n * 7 + 3, none⟩ (.bool x.d)).setCell ⟨g, n * 7 + 4, none⟩ (.slice x.da x.dl x.dc)).setCell ⟨g, n * 7 + 5, none⟩ (.string x.s)).setCell ⟨g, n * 7 + 6, none⟩ (.int .i64 x.r)).ownsRow base 58 7 (.slice (some ⟨g, 0, none⟩) m c) m ((L.set n x).flatMap valC) ∧
    w.grownBy (((((((w.setCell ⟨g, n * 7, none⟩ (.int .i64 x.k)).setCell ⟨g, n * 7 + 1, none⟩ (.bool x.n)).setCell ⟨g, n * 7 + 2, none⟩ (.slice x.na x.nl x.nc)).setCell ⟨g, n * 7 + 3, none⟩ (.bool x.d)).setCell ⟨g, n * 7 + 4, none⟩ (.slice x.da x.dl x.dc)).setCell ⟨g, n * 7 + 5, none⟩ (.string x.s)).setCell ⟨g, n * 7 + 6, none⟩ (.int .i64 x.r)) (some g) := by
  have h0 := h.stored (n * 7) (.int .i64 x.k)
  have h1 := h0.1.stored (n * 7 + 1) (.bool x.n)
  have h2 := h1.1.stored (n * 7 + 2) (.slice x.na x.nl x.nc)
  have h3 := h2.1.stored (n * 7 + 3) (.bool x.d)
  have h4 := h3.1.stored (n * 7 + 4) (.slice x.da x.dl x.dc)
  have h5 := h4.1.stored (n * 7 + 5) (.string x.s)
  have h6 := h5.1.stored (n * 7 + 6) (.int .i64 x.r)
  rw [flat_set L n x hn] at h6
  exact ⟨h6.1, grown_trans (grown_trans (grown_trans (grown_trans (grown_trans (grown_trans h0.2 h1.2) h2.2) h3.2) h4.2) h5.2) h6.2⟩

theorem own_cells7 {w : World} {base g m c n : Nat} {L : List Val} (h : w.ownsRow base 58 7 (.slice (some ⟨g, 0, none⟩) m c) m (L.flatMap valC)) (hL : L.length = m) (hn : n < L.length) :
    ∃ x : Val, w.cell? ⟨g, n * 7, none⟩ = some (.int .i64 x.k) ∧ w.cell? ⟨g, n * 7 + 1, none⟩ = some (.bool x.n) ∧ w.cell? ⟨g, n * 7 + 2, none⟩ = some (.slice x.na x.nl x.nc) ∧
      w.cell? ⟨g, n * 7 + 3, none⟩ = some (.bool x.d) ∧ w.cell? ⟨g, n * 7 + 4, none⟩ = some (.slice x.da x.dl x.dc) ∧ w.cell? ⟨g, n * 7 + 5, none⟩ = some (.string x.s) ∧ w.cell? ⟨g, n * 7 + 6, none⟩ = some (.int .i64 x.r) := by
  subst hL
  obtain ⟨b, off, e, z0, z1, z2, z3, z4, z5, z6⟩ := ValsAt.at (w := w) (l := L) (RowS.of_own h) hn
  simp only [Option.some.injEq, Addr.mk.injEq, and_true] at e
  obtain ⟨rfl, rfl⟩ := e
  simp only [Nat.zero_add] at z0 z1 z2 z3 z4 z5 z6
  exact ⟨L[n], z0, z1, z2, z3, z4, z5, z6⟩

theorem own_ne_box {w : World} {base g z n c m N : Nat} {e t : TypeId} {xs : List Value} {cs : Array Value} {fz : Nat × Nat} (h : w.ownsRow base e z (.slice (some ⟨g, 0, none⟩) n c) m xs) (hN : w.heap[N]? = some (.cells cs t fz)) (hne : e ≠ t) : N ≠ g := by
  rintro rfl
  rcases h.2 with ⟨h', _⟩ | ⟨g', cap, cur, h', _, hg, _⟩
  · simp at h'
  · simp only [Value.slice.injEq, Option.some.injEq, Addr.mk.injEq, and_true] at h'
    obtain ⟨rfl, rfl, rfl⟩ := h'
    rw [hN] at hg
    simp only [Option.some.injEq, Obj.cells.injEq] at hg
    exact hne hg.2.1.symm

theorem grown_setC (w : World) (g j : Nat) (u : Value) : w.grownBy (w.setCell ⟨g, j, none⟩ u) (some g) :=
  ⟨rfl, rfl, rfl, by simp, fun k _ hk => by rw [Below.heap_setCell _ _ _ _ (fun e => hk (by rw [e]))]⟩

theorem own_box {w : World} {base z m N : Nat} {e t : TypeId} {v : Value} {xs : List Value} {cs : Array Value} {fz : Nat × Nat} (h : w.ownsRow base e z v m xs) (hN : w.heap[N]? = some (.cells cs t fz)) (hne : e ≠ t) : v.ownBlock ≠ some N := by
  intro hb
  rcases h.2 with ⟨rfl, _⟩ | ⟨g, cap, cur, rfl, _⟩
  · simp [Value.ownBlock] at hb
  · simp [Value.ownBlock] at hb
    exact own_ne_box h hN hne hb.symm

theorem valsAtN_length {l : List Val} {m n : Nat} (h1 : n ≤ l.length) (h2 : n ≤ m) : (valsAtN l m n).length = m := by
  unfold valsAtN; simp; omega
theorem valsAtN_set {l : List Val} {m n : Nat} (h1 : n < l.length) (h2 : n < m) : (valsAtN l m n).set n l[n] = valsAtN l m (n + 1) := by
  unfold valsAtN
  rw [List.set_append_right _ _ (by simp; omega), List.length_take, Nat.min_eq_left (by omega), Nat.sub_self, show m - n = (m - (n + 1)) + 1 by omega, List.replicate_succ, List.set_cons_zero, List.take_succ_eq_append_getElem h1, List.append_assoc]
  rfl

set_option maxRecDepth 100000 in
set_option maxHeartbeats 4000000 in
theorem positional_any (pv lv vv : Value) (fn : ByteArray) (ps : List Par) (l : List Val) (N : Nat) (w0 w : World) (hv : ParamsAt w0 pv ps) (hl : ValsAt w0 lv l) (hb0 : Below w0.heap.size w0 w) (hB : w0.heap.size ≤ N) (hl1 : l.length ≤ 1000) (hp1 : ps.length ≤ 12) (hfn : fn.size ≤ 140737488355328)
    (hN : w.heap[N]? = some (bdO pv fn vv (.slice none 0 0) (.slice none 0 0) (.slice none 0 0)))
    (hown : w.ownsRow w0.heap.size 58 7 vv ps.length ((valsAtN l ps.length 0).flatMap valC)) :
    Calls Try.prog 46 #[.pointer (some ⟨N, 0, none⟩), lv] w fun e w' =>
      ∃ rv, e = .returned (.string (posT fn ps l)) ∧ w'.heap[N]? = some (bdO pv fn vv rv (.slice none 0 0) (.slice none 0 0)) ∧ w'.ownsRow w0.heap.size 58 7 vv ps.length ((startV unbV ps l).flatMap valC) ∧
        w'.ownsRow w0.heap.size 58 7 rv (startRest ps l).length ((startRest ps l).flatMap valC) ∧ (∀ k, vv.ownBlock = some k → rv.ownBlock ≠ some k) ∧ Below w0.heap.size w0 w' := by
  obtain ⟨la, lc, rfl⟩ := hl.isSlice
  obtain ⟨pa, pc, rfl⟩ := hv.len
  have HV := Lib.hid hv
  have HL := Lib.hid hl
  clear hv hl
  go_enter Try.func46, Try.ntmps46
  go_upto_block 0 with fail
  go_cut [5] (fun s5 wx => s5 = .int .i64 (min (leadN ps) l.length : Nat) ∧ wx.heap[N]? = some (bdO (.slice pa ps.length pc) fn vv (.slice none 0 0) (.slice none 0 0) (.slice none 0 0)) ∧
    wx.ownsRow w0.heap.size 58 7 vv ps.length ((startV unbV ps l).flatMap valC) ∧ Below w0.heap.size w0 wx)
  case first =>
    go_wp2
    go_loopg [5] l.length (fun q s5 wr => ∃ n : Nat, n ≤ leadN ps ∧ n ≤ l.length ∧ l.length - n ≤ q ∧ s5 = .int .i64 n ∧ wr.heap[N]? = some (bdO (.slice pa ps.length pc) fn vv (.slice none 0 0) (.slice none 0 0) (.slice none 0 0)) ∧
      wr.ownsRow w0.heap.size 58 7 vv ps.length ((valsAtN l ps.length n).flatMap valC) ∧ Below w0.heap.size w0 wr)
    case atStart => exact ⟨0, Nat.zero_le _, Nat.zero_le _, by omega, rfl, hN, hown, hb0⟩
    case round =>
      obtain ⟨n, hn1, hn2, hq, rfl, hN, hown, hb⟩ := hrel
      unfold bdO at hN
      have c0 := box_cell hN 0
      have c1 := box_cell hN 1
      have c2 := box_cell hN 2
      have c3 := box_cell hN 3
      simp only [List.getElem?_toArray, List.getElem?_cons_zero, List.getElem?_cons_succ] at c0 c1 c2 c3
      by_cases hlt : n < l.length ∧ n < leadN ps
      · obtain ⟨hlt1, hlt2⟩ := hlt
        obtain ⟨hlp, hk0⟩ := lead_lt hlt2
        obtain ⟨g, c, rfl, hg⟩ := own_form hown (by omega)
        obtain ⟨b, off, rfl, z0, z1, z2, z3, z4, z5, z6⟩ := ValsAt.at (HL.out.below hb) hlt1
        obtain ⟨a', c', he, _, _, hc⟩ := HV.out.below hb
        simp only [Value.slice.injEq, true_and] at he
        obtain ⟨rfl, rfl⟩ := he
        obtain ⟨b2, off2, da', dc', rfl, x0, x1, x2⟩ := hc n hlp
        rw [hk0] at x0
        clear hc hk0
        have f0 := hown.frozenAt (n * 7)
        have f1 := hown.frozenAt (n * 7 + 1)
        have f2 := hown.frozenAt (n * 7 + 2)
        have f3 := hown.frozenAt (n * 7 + 3)
        have f4 := hown.frozenAt (n * 7 + 4)
        have f5 := hown.frozenAt (n * 7 + 5)
        have f6 := hown.frozenAt (n * 7 + 6)
        have hvl : (valsAtN l ps.length n).length = ps.length := valsAtN_length hn2 (by omega)
        obtain ⟨yy, y0, y1, y2, y3, y4, y5, y6⟩ := own_cells7 hown hvl (n := n) (by omega)
        have hset := own_set7 hown (n := n) (by omega) l[n]
        rw [valsAtN_set hlt1 hlp] at hset
        have HS := Lib.hid hset
        clear hset hvl
        generalize l[n] = x at *
        obtain ⟨k', n', na', nl', nc', d', da2, dl', dc2, s', r'⟩ := x
        simp only at HS
        simp only at z0 z1 z2 z3 z4 z5 z6
        have i1 : ((n : Int) < (l.length : Int)) := by omega
        have i2 : ((n : Int) < (ps.length : Int)) := by omega
        have hle1 := hown
        go_wp2
        go_region
        have hNg : N ≠ g := own_ne_box hown hN (by decide)
        have hNl := box_lt hN
        obtain ⟨hS1, hS2⟩ := HS.out
        generalize (((((((wr.setCell ⟨g, n * 7, none⟩ (.int .i64 k')).setCell ⟨g, n * 7 + 1, none⟩ (.bool n')).setCell ⟨g, n * 7 + 2, none⟩ (.slice na' nl' nc')).setCell ⟨g, n * 7 + 3, none⟩ (.bool d')).setCell ⟨g, n * 7 + 4, none⟩ (.slice da2 dl' dc2)).setCell ⟨g, n * 7 + 5, none⟩ (.string s')).setCell ⟨g, n * 7 + 6, none⟩ (.int .i64 r')) = wS at *
        have hNS : wS.heap[N]? = some (bdO (.slice (some ⟨b2, off2, none⟩) ps.length pc) fn (.slice (some ⟨g, 0, none⟩) ps.length c) (.slice none 0 0) (.slice none 0 0) (.slice none 0 0)) := (hS2.block N hNl (by simpa using hNg)).trans hN
        have hbS : Below w0.heap.size w0 wS := hb.grown hS2 hb.size (fun q hq => by simp at hq; omega)
        clear HS hS2 y0 y1 y2 y3 y4 y5 y6 f0 f1 f2 f3 f4 f5 f6
        go_wp2
        go_roundg (l.length - (n + 1))
        case measure => omega
        case rel => exact ⟨n + 1, by omega, by omega, by omega, by go_num, hNS, own_drew hS1, hbS.drew⟩
      · have hmin : n = min (leadN ps) l.length := by omega
        have hsv : (valsAtN l ps.length n) = startV unbV ps l := by unfold valsAtN startV; rw [hmin]
        rw [hsv] at hown
        have HM := Lib.hid hmin
        clear hmin hsv
        by_cases h1 : n < l.length
        · have i1 : ((n : Int) < (l.length : Int)) := by omega
          by_cases h2 : n < ps.length
          · have i2 : ((n : Int) < (ps.length : Int)) := by omega
            have hk : ¬ ps[n].k = 0 := fun h0 => by have := lead_stop ps n hn1 h2 h0; omega
            obtain ⟨a', c', he, _, _, hc⟩ := HV.out.below hb
            simp only [Value.slice.injEq, true_and] at he
            obtain ⟨rfl, rfl⟩ := he
            obtain ⟨b2, off2, da', dc', rfl, x0, x1, x2⟩ := hc n h2
            clear hc
            generalize ps[n].k = pk at *
            have hkb : (pk == 0) = false := by simpa using hk
            go_wp2
            go_meet
            exact ⟨by rw [← HM.out], hN, hown, hb⟩
          · have i2 : ¬ ((n : Int) < (ps.length : Int)) := by omega
            go_wp2
            go_meet
            exact ⟨by rw [← HM.out], hN, hown, hb⟩
        · have i1 : ¬ ((n : Int) < (l.length : Int)) := by omega
          go_wp2
          go_meet
          exact ⟨by rw [← HM.out], hN, hown, hb⟩
  case rest =>
    obtain ⟨rfl, hN, hown, hb⟩ := hcut
    have hmn : min (leadN ps) l.length ≤ l.length := Nat.min_le_right _ _
    have HRest := Lib.hid (show startRest ps l = l.drop (min (leadN ps) l.length) from rfl)
    generalize min (leadN ps) l.length = n at *
    obtain ⟨u, hu, -, hsl, -⟩ := RowS.sub (HL.out.below hb) Try.underlying36 sizeVal (i := n) (j := l.length) hmn (Nat.le_refl _)
    have hsl := hsl rfl
    have hfl : ((l.flatMap valC).drop (n * 7)).take ((l.length - n) * 7) = (l.drop n).flatMap valC := by
      rw [flat_drop, List.take_of_length_le (by rw [flat_length7, List.length_drop]; exact Nat.le_refl _)]
    rw [hfl] at hu
    obtain ⟨au, cu, rfl⟩ := hu.isSlice
    have hone : ∀ u ∈ (l.drop n).flatMap valC, u.oneCell' = true := by
      intro u hu
      rw [List.mem_flatMap] at hu
      obtain ⟨x, _, hx⟩ := hu
      simp only [valC, List.mem_cons, List.not_mem_nil, or_false] at hx
      rcases hx with rfl | rfl | rfl | rfl | rfl | rfl | rfl <;> rfl
    have hcl := CloneV_any _ _ _ _ hu hone (by omega)
    unfold bdO at hN
    have c0 := box_cell hN 0
    have c1 := box_cell hN 1
    have c2 := box_cell hN 2
    have c3 := box_cell hN 3
    simp only [List.getElem?_toArray, List.getElem?_cons_zero, List.getElem?_cons_succ] at c0 c1 c2 c3
    clear hfl hone hu hmn
    go_wp2_with fail
    refine hcl.mono ?_
    rintro e w5 ⟨rv, rfl, hrv, hb5⟩
    have hN5 := (hb5.block N (box_lt hN)).trans hN
    have hown5 := own_below hown hb5
    have hbw5 := ext_trans hb hb5
    have hrv5 := own_base hrv hb.size
    have d0 := box_cell hN5 0
    have d3 := box_cell hN5 3
    have d4 := box_frozen hN5 3
    simp only [List.getElem?_toArray, List.getElem?_cons_zero, List.getElem?_cons_succ] at d0 d3
    have hN6 := bdO_set hN5 rv
    have hNv : vv.ownBlock ≠ some N := own_box hown5 hN5 (by decide)
    have hNr : rv.ownBlock ≠ some N := own_box hrv5 hN5 (by decide)
    have hown6 := hown5.kept (grown_setC w5 N 3 rv) (.inr hNv)
    have hrv6 := hrv5.kept (grown_setC w5 N 3 rv) (.inr hNr)
    have hbw6 : Below w0.heap.size w0 (w5.setCell ⟨N, 3, none⟩ rv) := hbw5.setCell hB _
    have hdis : ∀ k, vv.ownBlock = some k → rv.ownBlock ≠ some k := fun k h1 h2 => by
      have h3 := (hown.lt k h1).2
      have h4 := (hrv.lt k h2).1
      omega
    obtain ⟨ra, rc, rfl⟩ := own_isSlice hrv
    clear c0 c1 c2 c3 hN hown hcl hb5 hb hN5 hown5 hrv hrv5 hbw5
    go_upto_region 6 with fail
    generalize (w5.setCell ⟨N, 3, none⟩ (.slice ra (l.length - n) rc)) = w6 at *
    have hl2 : (l.drop n).length = l.length - n := List.length_drop
    have HL2 := Lib.hid hl2
    clear hl2
    have e0 := box_cell hN6 0
    simp only [List.getElem?_toArray, List.getElem?_cons_zero] at e0
    have hkc := kind_any ps _ N 1 w6 (HV.out.below hbw6) e0
    go_wp2_with fail
    refine hkc.mono ?_
    rintro e w7 ⟨rfl, hb7⟩
    have hN7 := (hb7.block N (box_lt hN6)).trans hN6
    have hown7 := own_below hown6 hb7
    have hrv7 := own_below hrv6 hb7
    have hbw7 := ext_trans hbw6 hb7
    have f0 := box_cell hN7 0
    have f1 := box_cell hN7 1
    have f3 := box_cell hN7 3
    simp only [List.getElem?_toArray, List.getElem?_cons_zero, List.getElem?_cons_succ] at f0 f1 f3
    clear hkc e0 hN6 hown6 hrv6 hbw6 hb7
    have HEnd := Lib.hid (fun (t : ByteArray) (ht : t = posT fn ps l) => (⟨_, by rw [ht], hN7, hown7, by rw [HRest.out]; exact own_cast hrv7 HL2.out.symm rfl, hdis, hbw7⟩ :
      ∃ rv, Ending.returned (.string t) = .returned (.string (posT fn ps l)) ∧ w7.heap[N]? = some (bdO (.slice pa ps.length pc) fn vv rv (.slice none 0 0) (.slice none 0 0)) ∧ w7.ownsRow w0.heap.size 58 7 vv ps.length ((startV unbV ps l).flatMap valC) ∧
        w7.ownsRow w0.heap.size 58 7 rv (startRest ps l).length ((startRest ps l).flatMap valC) ∧ (∀ k, vv.ownBlock = some k → rv.ownBlock ≠ some k) ∧ Below w0.heap.size w0 w7))
    have HPar := Lib.hid (HV.out.below hbw7)
    clear hown7 hrv7 hdis hbw7
    by_cases hr : l.length - n = 0
    · have hrb : ¬ (((l.length - n : Nat) : Int) > 0) := by omega
      have hp : Hid (posT fn ps l = ⟨#[]⟩) := by
        unfold Hid posT
        rw [if_neg]
        rintro ⟨h, _⟩
        exact h (by rw [HRest.out]; exact List.eq_nil_of_length_eq_zero (by rw [List.length_drop]; exact hr))
      go_wp2
      go_ret
      exact HEnd.out _ hp.out.symm
    · have hrb : (((l.length - n : Nat) : Int) > 0) := by omega
      have hne : Hid (startRest ps l ≠ []) := by
        unfold Hid
        rw [HRest.out]
        intro h
        exact hr (by rw [← List.length_drop, h]; rfl)
      clear hr
      cases hf : ps.findIdx? fun p => p.k == 1 with
      | none =>
        have hp : Hid (posT fn ps l = fn ++ ⟨#[40, 41, 32, 103, 111, 116, 32, 116, 111, 111, 32, 109, 97, 110, 121, 32, 97, 114, 103, 117, 109, 101, 110, 116, 115]⟩) := by
          unfold Hid posT
          rw [if_pos ⟨hne.out, star_none hf⟩]
        clear hf
        unfold optI
        go_wp2
        go_ret
        exact HEnd.out _ hp.out.symm
      | some i =>
        obtain ⟨hi, hst⟩ := star_some hf
        have HSt := Lib.hid hst
        obtain ⟨a', c', he, _, _, hc⟩ := HPar.out
        simp only [Value.slice.injEq, true_and] at he
        obtain ⟨rfl, rfl⟩ := he
        obtain ⟨b2, off2, da', dc', rfl, x0, x1, x2⟩ := hc i hi
        clear hc hf hst
        unfold optI
        simp only
        cases hE : strE ps[i].s with
        | true =>
          have hp : Hid (posT fn ps l = fn ++ ⟨#[40, 41, 32, 103, 111, 116, 32, 116, 111, 111, 32, 109, 97, 110, 121, 32, 97, 114, 103, 117, 109, 101, 110, 116, 115]⟩) := by
            unfold Hid posT
            rw [if_pos ⟨hne.out, by rw [HSt.out, hE]; rfl⟩]
          clear HSt
          unfold strE at hE
          generalize ps[i].s = nm at *
          go_wp2
          go_ret
          exact HEnd.out _ hp.out.symm
        | false =>
          have hp : Hid (posT fn ps l = ⟨#[]⟩) := by
            unfold Hid posT
            rw [if_neg]
            rintro ⟨_, h⟩
            rw [HSt.out, hE] at h; cases h
          clear HSt
          unfold strE at hE
          generalize ps[i].s = nm at *
          go_wp2
          go_ret
          exact HEnd.out _ hp.out.symm
end Go.Proofs.Ytbickehhnkhabaa
