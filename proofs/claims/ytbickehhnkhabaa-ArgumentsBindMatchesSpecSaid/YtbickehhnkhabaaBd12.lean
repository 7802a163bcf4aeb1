/- Walk: the document's Bound. -/
import Derived.Test.YtbickehhnkhabaaOa
import Derived.Deep.RegionLaw
namespace Go.Proofs.Ytbickehhnkhabaa
open Go.RowKit

/-- What the document's Bound answers. -/
def BoundPost (w : World) (fn : ByteArray) (ps : List Par) (ds l : List Val) (nv : List (ByteArray × Val)) (e : Ending) (w' : World) : Prop :=
  Below w.heap.size w w' ∧
  ((∃ m, refF unbV ps ds l nv = .inl m ∧ e = .returned (.tuple #[nilBd, .string (msgT fn m)])) ∨
   ∃ st rest vv rv nv' mv, refF unbV ps ds l nv = .inr (st, rest) ∧ e = .returned (.tuple #[.agg #[vv, rv, nv', mv], .string ⟨#[]⟩]) ∧ BoundAt w' vv rv nv' mv st.vals rest st.names st.named)

theorem plainN_succ (ps : List Par) (k : Nat) (h : k < ps.length) : plainN (ps.take (k + 1)) = plainN (ps.take k) + (if ps[k].k = 0 then 1 else 0) := by
  unfold plainN
  rw [List.take_succ_eq_append_getElem h, List.filter_append, List.length_append]
  congr 1
  by_cases h0 : ps[k].k = 0 <;> simp [h0]
theorem hasStar_succ (ps : List Par) (k : Nat) (h : k < ps.length) : hasStar (ps.take (k + 1)) = (hasStar (ps.take k) || (ps[k].k == 1 && !strE ps[k].s)) := by
  unfold hasStar
  rw [List.take_succ_eq_append_getElem h, List.any_append]; simp
theorem hasPairs_succ (ps : List Par) (k : Nat) (h : k < ps.length) : hasPairs (ps.take (k + 1)) = (hasPairs (ps.take k) || (ps[k].k == 3)) := by
  unfold hasPairs
  rw [List.take_succ_eq_append_getElem h, List.any_append]; simp
theorem plainN_le (ps : List Par) : plainN ps ≤ ps.length := List.length_filter_le _ _

/-- What stands behind the test of the positional arguments. -/
def refCont (ps : List Par) (ds l : List Val) (x : BMsg ⊕ RSt Val) : BMsg ⊕ (BSt Val × List Val) := match x with
  | .inl m => .inl m
  | .inr st => match outGo unbV st.ns st.gs 0 ds ps with
    | .inl m => .inl m
    | .inr vals => .inr (⟨vals, st.names, st.named⟩, l.drop (plainN ps))
theorem refF_cont (ps : List Par) (ds l : List Val) (nv : List (ByteArray × Val)) : refF unbV ps ds l nv = if plainN ps < l.length ∧ hasStar ps = false then .inl .many else
    refCont ps ds l (refGo ps ⟨(ps.take (min (plainN ps) l.length)).map Par.s, l.take (min (plainN ps) l.length), [], []⟩ nv) := by
  unfold refF refCont
  split
  · rfl
  · cases refGo ps ⟨(ps.take (min (plainN ps) l.length)).map Par.s, l.take (min (plainN ps) l.length), [], []⟩ nv with
    | inl m => rfl
    | inr st =>
      simp only
      cases outGo unbV st.ns st.gs 0 ds ps <;> rfl
theorem res1_set {w : World} {N1 : Nat} {y0 y1 y2 y3 : Value} {t1 : TypeId} (h1 : w.heap[N1]? = some (.cells #[y0, y1, y2, y3] t1 (0, 0))) (x0 x1 x2 x3 : Value) :
    ((((w.setCell ⟨N1, 0, none⟩ x0).setCell ⟨N1, 1, none⟩ x1).setCell ⟨N1, 2, none⟩ x2).setCell ⟨N1, 3, none⟩ x3).heap[N1]? = some (.cells #[x0, x1, x2, x3] t1 (0, 0)) := by
  simp [World.setCell, Array.getElem?_modify, h1]
theorem below_res1 {B N1 : Nat} {w W : World} (h : Below B w W) (h1 : B ≤ N1) (x0 x1 x2 x3 : Value) :
    Below B w ((((W.setCell ⟨N1, 0, none⟩ x0).setCell ⟨N1, 1, none⟩ x1).setCell ⟨N1, 2, none⟩ x2).setCell ⟨N1, 3, none⟩ x3) :=
  (((h.setCell h1 _).setCell h1 _).setCell h1 _).setCell h1 _
theorem own_res1 {W : World} {base e z n N1 : Nat} {v : Value} {xs : List Value} (h : W.ownsRow base e z v n xs) (h1 : N1 < base) (x0 x1 x2 x3 : Value) :
    ((((W.setCell ⟨N1, 0, none⟩ x0).setCell ⟨N1, 1, none⟩ x1).setCell ⟨N1, 2, none⟩ x2).setCell ⟨N1, 3, none⟩ x3).ownsRow base e z v n xs := by
  have n1 : v.ownBlock ≠ some N1 := fun e => by have := (h.lt N1 e).1; omega
  exact (((h.kept (grown_setC _ N1 0 x0) (.inr n1)).kept (grown_setC _ N1 1 x1) (.inr n1)).kept (grown_setC _ N1 2 x2) (.inr n1)).kept (grown_setC _ N1 3 x3) (.inr n1)

/-- Cells that stand until number i is carried out. -/
structure GS (i : Nat) (B : List (Addr × Value)) (L : Array Bool) (W : World) : Prop where
  el : L.getD i false = false → Cs B W
theorem GS.put {i j : Nat} {B : List (Addr × Value)} {L : Array Bool} {W : World} (h : j ≠ i) : GS i B (L.setIfInBounds j true) W ↔ GS i B L W :=
  ⟨fun s => ⟨fun e => s.el (by rw [getD_put_ne L h]; exact e)⟩, fun s => ⟨fun e => s.el (by rw [getD_put_ne L h] at e; exact e)⟩⟩

set_option maxRecDepth 100000 in
set_option maxHeartbeats 40000000 in
theorem Bound_any (pv dv lv nv mv : Value) (fn : ByteArray) (ps : List Par) (ds l : List Val) (names : List ByteArray) (named : List Val) (w : World)
    (hv : ParamsAt w pv ps) (hd : ValsAt w dv ds) (hl : ValsAt w lv l) (hn : RowOf Value.string w nv names) (hm : ValsAt w mv named)
    (h12 : ps.length ≤ 12) (hn1 : ∀ i (h : i < ps.length), ps[i].n ≤ 1) (hds : ds.length = sumN ps) (hnm : names.length = named.length) (hlm : l.length + names.length ≤ 1000)
    (hfn : fn.size ≤ 140737488355328) (hsz : ∀ p ∈ ps, p.s.size ≤ 140737488355328) (hns : ∀ s ∈ names, s.size ≤ 140737488355328) :
    Calls Try.prog 21 #[pv, dv, .agg #[lv, nv, mv], .string fn] w fun e w' => BoundPost w fn ps ds l (names.zip named) e w' := by
  obtain ⟨pa, pc, rfl⟩ := hv.len
  obtain ⟨da, dc, rfl⟩ := hd.isSlice
  obtain ⟨la, lc, rfl⟩ := hl.isSlice
  obtain ⟨ma, mc, rfl⟩ := hm.isSlice
  obtain ⟨na, nc, rfl⟩ : ∃ na nc, nv = .slice na names.length nc := by obtain ⟨a, c, rfl, _⟩ := hn; exact ⟨_, _, rfl⟩
  have HV := Lib.hid hv
  have HD := Lib.hid hd
  have HL := Lib.hid hl
  have HN := Lib.hid hn
  have HM := Lib.hid hm
  have HSZ := Lib.hid hsz
  have HNS := Lib.hid hns
  have HN1 := Lib.hid hn1
  have HDS := Lib.hid hds
  have HNM := Lib.hid hnm
  have hml : named.length ≤ 1000 := by omega
  clear hv hd hl hn hm hsz hns hn1 hds hnm
  have hb1 := ext_alloc w (.cells #[.slice la l.length lc, .slice na names.length nc, .slice ma named.length mc] 39)
  have hx1 := heap_new w (.cells #[.slice la l.length lc, .slice na names.length nc, .slice ma named.length mc] 39)
  have hz1 : (w.alloc (.cells #[.slice la l.length lc, .slice na names.length nc, .slice ma named.length mc] 39)).heap.size = w.heap.size + 1 := by simp
  go_enter Try.func21, Try.ntmps21
  go_upto_region 1 with fail
  have hb2 := ext_alloc (w.alloc (.cells #[.slice la l.length lc, .slice na names.length nc, .slice ma named.length mc] 39)) (.cells #[.slice none 0 0, .slice none 0 0, .slice none 0 0, .slice none 0 0] 41)
  have hx2 := heap_new (w.alloc (.cells #[.slice la l.length lc, .slice na names.length nc, .slice ma named.length mc] 39)) (.cells #[.slice none 0 0, .slice none 0 0, .slice none 0 0, .slice none 0 0] 41)
  replace hx1 := (hb2.block _ (box_lt hx1)).trans hx1
  have hbb := ext_trans hb1 hb2
  rw [hz1] at hx2
  clear hb1 hb2 hz1
  generalize ((w.alloc (.cells #[.slice la l.length lc, .slice na names.length nc, .slice ma named.length mc] 39)).alloc (.cells #[.slice none 0 0, .slice none 0 0, .slice none 0 0, .slice none 0 0] 41)) = w2 at *
  have hN1 : w.heap.size < w.heap.size + 1 := by omega
  generalize w.heap.size + 1 = N1 at *
  have hl1 := box_lt hx1
  have hl2 := box_lt hx2
  go_wp2
  go_loopg [10, 11, 12, 32] ps.length (fun q s10 s11 s12 s32 wr => ∃ k : Nat, k ≤ ps.length ∧ ps.length - k ≤ q ∧ s32 = .int .i64 k ∧ s10 = .int .i64 (plainN (ps.take k) : Nat) ∧ s11 = .bool (hasStar (ps.take k)) ∧ s12 = .bool (hasPairs (ps.take k)) ∧ Below w2.heap.size w2 wr)
  case atStart => exact ⟨0, Nat.zero_le _, by omega, rfl, rfl, rfl, rfl, Below.refl _ _⟩
  case round =>
    obtain ⟨k, hk, hq, rfl, rfl, rfl, rfl, hb⟩ := hrel
    have hbw := ext_trans hbb hb
    by_cases hlt : k < ps.length
    · as_aux_lemma =>
        obtain ⟨a', c', he, _, _, hc⟩ := HV.out.below hbw
        simp only [Value.slice.injEq, true_and] at he
        obtain ⟨rfl, rfl⟩ := he
        obtain ⟨b, off, da', dc', rfl, z0, z1, z2⟩ := hc k hlt
        have P1 := Lib.hid (plainN_succ ps k hlt)
        have P2 := Lib.hid (hasStar_succ ps k hlt)
        have P3 := Lib.hid (hasPairs_succ ps k hlt)
        have hpl : plainN (ps.take k) ≤ k := by have := plainN_le (ps.take k); rw [List.length_take] at this; omega
        clear hc
        generalize plainN (ps.take k) = pl at *
        generalize hasStar (ps.take k) = st at *
        generalize hasPairs (ps.take k) = pr at *
        generalize ps[k].k = pk at *
        generalize ps[k].n = pn at *
        generalize ps[k].s = nm at *
        have hbA := ext_alloc wr (.cells #[.int .i64 pk, .string nm, .slice da' pn dc'] 51)
        by_cases h0 : pk = 0
        · have Q1 := Lib.hid (P1.out.trans (by rw [if_pos h0]))
          have Q2 := Lib.hid (P2.out.trans (show _ = st by subst h0; simp))
          have Q3 := Lib.hid (P3.out.trans (show _ = pr by subst h0; simp))
          clear P1 P2 P3
          subst h0
          go_wp2
          go_roundg (ps.length - (k + 1))
          case measure => omega
          case rel => exact ⟨k + 1, by omega, by omega, by go_num, by rw [Q1.out]; go_num, by rw [Q2.out], by rw [Q3.out], ext_trans hb hbA⟩
        · have Q1 := Lib.hid (P1.out.trans (by rw [if_neg h0]))
          have b0 : (pk == 0) = false := by simpa using h0
          by_cases h1 : pk = 1
          · subst h1
            have Q3 := Lib.hid (P3.out.trans (show _ = pr by simp))
            cases hE : strE nm with
            | true =>
              have Q2 := Lib.hid (P2.out.trans (show _ = st by rw [hE]; simp))
              clear P1 P2 P3
              unfold strE at hE
              go_wp2
              go_roundg (ps.length - (k + 1))
              case measure => omega
              case rel => exact ⟨k + 1, by omega, by omega, by go_num, by rw [Q1.out]; go_num, by rw [Q2.out], by rw [Q3.out], ext_trans hb hbA⟩
            | false =>
              have Q2 := Lib.hid (P2.out.trans (show _ = true by rw [hE]; simp))
              clear P1 P2 P3
              unfold strE at hE
              go_wp2
              go_roundg (ps.length - (k + 1))
              case measure => omega
              case rel => exact ⟨k + 1, by omega, by omega, by go_num, by rw [Q1.out]; go_num, by rw [Q2.out], by rw [Q3.out], ext_trans hb hbA⟩
          · have b1 : (pk == 1) = false := by simpa using h1
            have Q2 := Lib.hid (P2.out.trans (show _ = st by rw [b1]; simp))
            cases h3 : (pk == 3) with
            | true =>
              have Q3 := Lib.hid (P3.out.trans (show _ = true by rw [h3]; simp))
              clear P1 P2 P3
              go_wp2
              go_roundg (ps.length - (k + 1))
              case measure => omega
              case rel => exact ⟨k + 1, by omega, by omega, by go_num, by rw [Q1.out]; go_num, by rw [Q2.out], by rw [Q3.out], ext_trans hb hbA⟩
            | false =>
              have Q3 := Lib.hid (P3.out.trans (show _ = pr by rw [h3]; simp))
              clear P1 P2 P3
              go_wp2
              go_roundg (ps.length - (k + 1))
              case measure => omega
              case rel => exact ⟨k + 1, by omega, by omega, by go_num, by rw [Q1.out]; go_num, by rw [Q2.out], by rw [Q3.out], ext_trans hb hbA⟩
    · have hk' : k = ps.length := by omega
      subst hk'
      rw [List.take_of_length_le (Nat.le_refl _)]
      have hy1 := (hb.block _ hl1).trans hx1
      have hx1a := box_cell hy1 0
      simp only [List.getElem?_toArray, List.getElem?_cons_zero] at hx1a
      have hplN := plainN_le ps
      have hRR := refF_cont ps ds l (names.zip named)
      generalize hPL : plainN ps = PL at *
      generalize hST : hasStar ps = ST at *
      generalize hPR : hasPairs ps = PR at *
      generalize hRX : refF unbV ps ds l (names.zip named) = RR at *
      have HPL := Lib.hid hPL
      have HST := Lib.hid hST
      have HPR := Lib.hid hPR
      have HRX := Lib.hid hRX
      have HRR := Lib.hid hRR
      clear hPL hST hPR hRX hRR hq hk hlt
      go_upto_region 12 with fail
      obtain ⟨w5, hw5⟩ : ∃ w5 : World, w5 = wr := ⟨_, rfl⟩
      subst hw5
      go_cut [64] (fun s64 wx => s64 = .bool (decide (PL < l.length) && !ST) ∧ w5 = wx)
      case first => as_aux_lemma =>
        by_cases h1 : PL < l.length
        · have i1 : ((l.length : Int) > (PL : Int)) := by omega
          cases ST with
          | true =>
            go_wp2
            go_meet
            exact ⟨by simp, rfl⟩
          | false =>
            go_wp2
            go_meet
            exact ⟨by simp [h1], rfl⟩
        · have i1 : ¬ ((l.length : Int) > (PL : Int)) := by omega
          go_wp2
          go_meet
          exact ⟨by simp [h1], rfl⟩
      case rest =>
        obtain ⟨rfl, rfl⟩ := hcut
        by_cases hmany : PL < l.length ∧ ST = false
        · as_aux_lemma =>
            have hbt : (decide (PL < l.length) && !ST) = true := by simp [hmany.1, hmany.2]
            have HR := Lib.hid (HRR.out.trans (if_pos hmany))
            clear hmany HRR
            rw [hbt]
            clear hbt
            have hy2 := (hb.block _ hl2).trans hx2
            obtain ⟨q0, q1, q2, q3, qf, ql⟩ := box4 hy2
            have f0 := qf 0
            have f1 := qf 1
            have f2 := qf 2
            have f3 := qf 3
            clear qf
            go_wp2
            obtain ⟨t0, t1, t2, t3, -, -⟩ := box4 (res1_set hy2 (.slice none 0 0) (.slice none 0 0) (.slice none 0 0) (.slice none 0 0))
            refine bodyPost_ret (v := .tuple #[nilBd, .string (msgT fn .many)]) (by simp [results, Try.results21, go_sem, t0, t1, t2, t3, nilBd, msgT]) rfl ?_
            exact ⟨below_res1 hbw (Nat.le_of_lt hN1) _ _ _ _, .inl ⟨_, HRX.out.trans HR.out, rfl⟩⟩
        · have hbt : (decide (PL < l.length) && !ST) = false := by
            cases ST with
            | true => simp
            | false => simp at hmany ⊢; omega
          have HR := Lib.hid (HRR.out.trans (if_neg hmany))
          clear hmany HRR
          rw [hbt]
          clear hbt
          go_upto_region 16 with fail
          obtain ⟨iS, hiS, hs0, hs1, hs2⟩ := info_parts infoStr
          obtain ⟨iV, hiV, hv0, hv1, hv2⟩ := info_parts infoVal
          replace hx1 := (hb.block _ hl1).trans hx1
          replace hx2 := (hb.block _ hl2).trans hx2
          replace hl1 := box_lt hx1
          replace hl2 := box_lt hx2
          clear hb hbb hy1 hx1a
          have HV5 := Lib.hid (HV.out.below hbw)
          have HD5 := Lib.hid (HD.out.below hbw)
          have HL5 := Lib.hid (HL.out.below hbw)
          have HN5 := Lib.hid (HN.out.below hbw)
          have HM5 := Lib.hid (HM.out.below hbw)
          clear HV HD HL HN HM
          go_wp2
          go_loopg [15, 16, 70] ps.length (fun q s15 s16 s70 wx => ∃ k : Nat, k ≤ ps.length ∧ ps.length - k ≤ q ∧ s70 = .int .i64 k ∧ wx.ownsRow w5.heap.size 9 1 s15 (min k (min PL l.length)) (((ps.take (min k (min PL l.length))).map Par.s).map Value.string) ∧
            wx.ownsRow w5.heap.size 58 7 s16 (min k (min PL l.length)) ((l.take (min k (min PL l.length))).flatMap valC) ∧ Below w5.heap.size w5 wx)
          case atStart => exact ⟨0, Nat.zero_le _, by omega, rfl, by simpa using World.ownsRow_nil _ _ _ _, by simpa using World.ownsRow_nil _ _ _ _, Below.refl _ _⟩
          case round =>
            obtain ⟨k, hk, hq, rfl, hown1, hown2, hb⟩ := hrel
            by_cases hlt : k < ps.length
            · obtain ⟨a', c', he, _, _, hc⟩ := HV5.out.below hb
              simp only [Value.slice.injEq, true_and] at he
              obtain ⟨rfl, rfl⟩ := he
              obtain ⟨b, off, da', dc', rfl, z0, z1, z2⟩ := hc k hlt
              clear hc
              have hy1 := (hb.block _ hl1).trans hx1
              by_cases hkm : k < PL ∧ k < l.length
              · as_aux_lemma =>
                  obtain ⟨hk1, hk2⟩ := hkm
                  have i1 : ((k : Int) < (PL : Int)) := by omega
                  have i2 : ((k : Int) < (l.length : Int)) := by omega
                  have hm1 : min k (min PL l.length) = k := by omega
                  have hm2 : min (k + 1) (min PL l.length) = k + 1 := by omega
                  have HM2 := Lib.hid hm2
                  rw [hm1] at hown1 hown2
                  have HT1 := Lib.hid (show ((ps.take (k + 1)).map Par.s).map Value.string = ((ps.take k).map Par.s).map Value.string ++ [.string ps[k].s] by rw [List.take_succ_eq_append_getElem hlt, List.map_append, List.map_append]; rfl)
                  have HT2 := Lib.hid (show (l.take (k + 1)).flatMap valC = (l.take k).flatMap valC ++ valC l[k] by rw [List.take_succ_eq_append_getElem hk2, List.flatMap_append]; simp)
                  clear hm1 hm2
                  obtain ⟨lb, lo, rfl, q0, q1, q2, q3, q4, q5, q6⟩ := ValsAt.at (HL5.out) hk2
                  have hlb := World.block_lt_of_cell? _ _ q0
                  obtain ⟨lb', lo', e, q0, q1, q2, q3, q4, q5, q6⟩ := ValsAt.at (HL5.out.below hb) hk2
                  simp only [Option.some.injEq, Addr.mk.injEq, and_true] at e
                  obtain ⟨rfl, rfl⟩ := e
                  generalize ((ps.take k).map Par.s).map Value.string = L1 at *
                  generalize (l.take k).flatMap valC = L2 at *
                  generalize ps[k].k = pk at *
                  generalize ps[k].n = pn at *
                  generalize ps[k].s = nm at *
                  generalize l[k] = x at *
                  obtain ⟨kx, nx, nax, nlx, ncx, dx, dax, dlx, dcx, sx, rx⟩ := x
                  simp only at q0 q1 q2 q3 q4 q5 q6
                  have hx1a := box_cell hy1 0
                  simp only [List.getElem?_toArray, List.getElem?_cons_zero] at hx1a
                  obtain ⟨na', nc', rfl⟩ := own_isSlice hown1
                  obtain ⟨va', vc', rfl⟩ := own_isSlice hown2
                  have hbA := ext_alloc wr (.cells #[.int .i64 pk, .string nm, .slice da' pn dc'] 51)
                  have hxA := heap_new wr (.cells #[.int .i64 pk, .string nm, .slice da' pn dc'] 51)
                  have hyA := (hbA.block _ (box_lt hy1)).trans hy1
                  replace hx1a := box_cell hyA 0
                  simp only [List.getElem?_toArray, List.getElem?_cons_zero] at hx1a
                  go_wp2
                  have w1 := (hown1.lt)
                  have w2 := (hown2.lt)
                  have hP0 : wr.heap.size ≤ wr.heap.size := Nat.le_refl _
                  replace hown1 := own_below hown1 hbA
                  replace hown2 := own_below hown2 hbA
                  have hbwA := ext_trans hb hbA
                  have hPc := box_cell hxA 1
                  simp only [List.getElem?_toArray, List.getElem?_cons_zero, List.getElem?_cons_succ] at hPc
                  have hS0 : Cs [(⟨wr.heap.size, 1, none⟩, .string nm), (⟨w.heap.size, 0, none⟩, .slice (some ⟨lb, lo, none⟩) l.length lc), (⟨lb, lo + k * 7, none⟩, .int .i64 kx), (⟨lb, lo + k * 7 + 1, none⟩, .bool nx), (⟨lb, lo + k * 7 + 2, none⟩, .slice nax nlx ncx), (⟨lb, lo + k * 7 + 3, none⟩, .bool dx), (⟨lb, lo + k * 7 + 4, none⟩, .slice dax dlx dcx), (⟨lb, lo + k * 7 + 5, none⟩, .string sx), (⟨lb, lo + k * 7 + 6, none⟩, .int .i64 rx)]
                      (wr.alloc (.cells #[.int .i64 pk, .string nm, .slice da' pn dc'] 51)).drew := by
                    simp only [Cs, List.forall_mem_cons]
                    exact ⟨hPc, hx1a, Lib.cell?_alloc_some _ q0, Lib.cell?_alloc_some _ q1, Lib.cell?_alloc_some _ q2, Lib.cell?_alloc_some _ q3, Lib.cell?_alloc_some _ q4, Lib.cell?_alloc_some _ q5, Lib.cell?_alloc_some _ q6, fun _ h => by cases h⟩
                  have hP1 : wr.heap.size < (wr.alloc (.cells #[.int .i64 pk, .string nm, .slice da' pn dc'] 51)).heap.size := by simp
                  generalize (wr.alloc (.cells #[.int .i64 pk, .string nm, .slice da' pn dc'] 51)) = wA at *
                  clear q0 q1 q2 q3 q4 q5 q6 z0 z1 z2 hbA hxA hPc hyA hy1 hb
                  generalize wr.heap.size = P0 at *
                  clear hx1a
                  refine wp_region_noPanic ?_
                  refine wp_region_L (S := fun _ W => Cs [(⟨P0, 1, none⟩, .string nm), (⟨w.heap.size, 0, none⟩, .slice (some ⟨lb, lo, none⟩) l.length lc), (⟨lb, lo + k * 7, none⟩, .int .i64 kx), (⟨lb, lo + k * 7 + 1, none⟩, .bool nx), (⟨lb, lo + k * 7 + 2, none⟩, .slice nax nlx ncx), (⟨lb, lo + k * 7 + 3, none⟩, .bool dx), (⟨lb, lo + k * 7 + 4, none⟩, .slice dax dlx dcx), (⟨lb, lo + k * 7 + 5, none⟩, .string sx), (⟨lb, lo + k * 7 + 6, none⟩, .int .i64 rx)] W) (by kernel_rfl) ?_
                  refine wpAnyL_take (T := fun _ => True) (i := 0) (v := ?vv0) rfl (by kernel_rfl) (by kernel_rfl) (by kernel_rfl) (fun _ _ _ h => h) (fun _ _ => Iff.rfl) (fun _ _ _ _ _ => trivial) (Closed.of_B (by kernel_rfl)) (Or.inl ⟨by rfl, ?hy0⟩) hS0 ?rest0
                  case hy0 => (intro w _; go_simp; with_reducible rfl)
                  go_simp
                  refine wpAnyL_take (T := fun _ => True) (i := 1) (v := ?vv1) rfl (by kernel_rfl) (by kernel_rfl) (by kernel_rfl) (fun _ _ _ h => h) (fun _ _ => Iff.rfl) (fun _ _ _ _ _ => trivial) (Closed.of_B (by kernel_rfl)) (Or.inl ⟨by rfl, ?hy1⟩) hS0 ?rest1
                  case hy1 => (intro w _; go_simp; with_reducible rfl)
                  go_simp
                  refine wpAnyL_take (T := fun W => Cs [(⟨P0, 1, none⟩, .string nm), (⟨w.heap.size, 0, none⟩, .slice (some ⟨lb, lo, none⟩) l.length lc), (⟨lb, lo + k * 7, none⟩, .int .i64 kx), (⟨lb, lo + k * 7 + 1, none⟩, .bool nx), (⟨lb, lo + k * 7 + 2, none⟩, .slice nax nlx ncx), (⟨lb, lo + k * 7 + 3, none⟩, .bool dx), (⟨lb, lo + k * 7 + 4, none⟩, .slice dax dlx dcx), (⟨lb, lo + k * 7 + 5, none⟩, .string sx), (⟨lb, lo + k * 7 + 6, none⟩, .int .i64 rx)] W) (i := 2) (v := ?vv2) rfl (by kernel_rfl) (by kernel_rfl) (by kernel_rfl) (fun _ _ _ h => h) (fun _ _ => Iff.rfl) (fun _ _ _ _ h => h) (Closed.of_B (by kernel_rfl)) (Or.inl ⟨by rfl, ?hy2⟩) hS0 ?rest2
                  case hy2 => (intro W hW; simp only [Cs, List.forall_mem_cons] at hW; obtain ⟨m0, m1, m2, m3, m4, m5, m6, m7, m8, -⟩ := hW; go_simp; with_reducible rfl)
                  go_simp
                  refine wpAnyL_take (T := fun _ => True) (i := 5) (v := ?vv5) rfl (by kernel_rfl) (by kernel_rfl) (by kernel_rfl) (fun _ _ _ h => h) (fun _ _ => Iff.rfl) (fun _ _ _ _ _ => trivial) (Closed.of_B (by kernel_rfl)) (Or.inl ⟨by rfl, ?hy5⟩) hS0 ?rest5
                  case hy5 => (intro w _; go_simp; with_reducible rfl)
                  go_simp
                  refine wpAnyL_take (T := fun _ => True) (i := 6) (v := ?vv6) rfl (by kernel_rfl) (by kernel_rfl) (by kernel_rfl) (fun _ _ _ h => h) (fun _ _ => Iff.rfl) (fun _ _ _ _ _ => trivial) (Closed.of_B (by kernel_rfl)) (Or.inl ⟨by rfl, ?hy6⟩) hS0 ?rest6
                  case hy6 => (intro w _; go_simp; with_reducible rfl)
                  go_simp
                  refine wpAnyL_take (T := fun W => Cs [(⟨P0, 1, none⟩, .string nm), (⟨w.heap.size, 0, none⟩, .slice (some ⟨lb, lo, none⟩) l.length lc), (⟨lb, lo + k * 7, none⟩, .int .i64 kx), (⟨lb, lo + k * 7 + 1, none⟩, .bool nx), (⟨lb, lo + k * 7 + 2, none⟩, .slice nax nlx ncx), (⟨lb, lo + k * 7 + 3, none⟩, .bool dx), (⟨lb, lo + k * 7 + 4, none⟩, .slice dax dlx dcx), (⟨lb, lo + k * 7 + 5, none⟩, .string sx), (⟨lb, lo + k * 7 + 6, none⟩, .int .i64 rx)] W) (i := 7) (v := ?vv7) rfl (by kernel_rfl) (by kernel_rfl) (by kernel_rfl) (fun _ _ _ h => h) (fun _ _ => Iff.rfl) (fun _ _ _ _ h => h) (Closed.of_B (by kernel_rfl)) (Or.inl ⟨by rfl, ?hy7⟩) hS0 ?rest7
                  case hy7 => (intro W hW; simp only [Cs, List.forall_mem_cons] at hW; obtain ⟨m0, m1, m2, m3, m4, m5, m6, m7, m8, -⟩ := hW; go_simp; with_reducible rfl)
                  go_simp
                  refine wpAnyL_take (T := fun _ => True) (i := 8) (v := ?vv8) rfl (by kernel_rfl) (by kernel_rfl) (by kernel_rfl) (fun _ _ _ h => h) (fun _ _ => Iff.rfl) (fun _ _ _ _ _ => trivial) (Closed.of_B (by kernel_rfl)) (Or.inl ⟨by rfl, ?hy8⟩) hS0 ?rest8
                  case hy8 => (intro w _; go_simp; with_reducible rfl)
                  go_simp
                  refine wpAnyL_take (T := fun _ => True) (i := 9) (v := ?vv9) rfl (by kernel_rfl) (by kernel_rfl) (by kernel_rfl) (fun _ _ _ h => h) (fun _ _ => Iff.rfl) (fun _ _ _ _ _ => trivial) (Closed.of_B (by kernel_rfl)) (Or.inl ⟨by rfl, ?hy9⟩) hS0 ?rest9
                  case hy9 => (intro w _; go_simp; with_reducible rfl)
                  go_simp
                  refine wpAnyL_take (T := fun W => Cs [(⟨P0, 1, none⟩, .string nm), (⟨w.heap.size, 0, none⟩, .slice (some ⟨lb, lo, none⟩) l.length lc), (⟨lb, lo + k * 7, none⟩, .int .i64 kx), (⟨lb, lo + k * 7 + 1, none⟩, .bool nx), (⟨lb, lo + k * 7 + 2, none⟩, .slice nax nlx ncx), (⟨lb, lo + k * 7 + 3, none⟩, .bool dx), (⟨lb, lo + k * 7 + 4, none⟩, .slice dax dlx dcx), (⟨lb, lo + k * 7 + 5, none⟩, .string sx), (⟨lb, lo + k * 7 + 6, none⟩, .int .i64 rx)] W) (i := 10) (v := ?vv10) rfl (by kernel_rfl) (by kernel_rfl) (by kernel_rfl) (fun _ _ _ h => h) (fun _ _ => Iff.rfl) (fun _ _ _ _ h => h) (Closed.of_B (by kernel_rfl)) (Or.inl ⟨by rfl, ?hy10⟩) hS0 ?rest10
                  case hy10 => (intro W hW; simp only [Cs, List.forall_mem_cons] at hW; obtain ⟨m0, m1, m2, m3, m4, m5, m6, m7, m8, -⟩ := hW; go_simp; with_reducible rfl)
                  go_simp
                  have hapS : ∀ row, row = (Value.slice na' k nc').ownBlock ∨ row = (Value.slice va' k vc').ownBlock → ∀ x ∈ ([(⟨P0, 1, none⟩, .string nm), (⟨w.heap.size, 0, none⟩, .slice (some ⟨lb, lo, none⟩) l.length lc), (⟨lb, lo + k * 7, none⟩, .int .i64 kx), (⟨lb, lo + k * 7 + 1, none⟩, .bool nx), (⟨lb, lo + k * 7 + 2, none⟩, .slice nax nlx ncx), (⟨lb, lo + k * 7 + 3, none⟩, .bool dx), (⟨lb, lo + k * 7 + 4, none⟩, .slice dax dlx dcx), (⟨lb, lo + k * 7 + 5, none⟩, .string sx), (⟨lb, lo + k * 7 + 6, none⟩, .int .i64 rx)] : List (Addr × Value)), some x.1.block ≠ row := by
                    intro row hrow
                    refine Cs.apart (lo := w5.heap.size) (hi := P0) (by rcases hrow with rfl | rfl; exact w1; exact w2) ?_
                    simp only [List.forall_mem_cons]
                    refine ⟨?_, ?_, ?_, ?_, ?_, ?_, ?_, ?_, ?_, fun _ h => by cases h⟩ <;> first | (left; omega) | (right; omega)
                  refine two_appends (i1 := 3) (i2 := 4) (j1 := 11) (j2 := 12) (d1 := 88) (d2 := 89) (f1 := 96) (f2 := 97) (e1 := 9) (e2 := 58) (t1 := 9) (t2 := 58) (z1 := 1) (z2 := 7) (n1 := k) (n2 := k) (v1 := (.slice na' k nc')) (v2 := (.slice va' k vc')) (xs1 := L1) (xs2 := L2) (C1 := #[.string nm]) (C2 := (valC ⟨kx, nx, nax, nlx, ncx, dx, dax, dlx, dcx, sx, rx⟩).toArray) w5.heap.size rfl rfl rfl rfl (fun _ => rfl) (fun _ => rfl) (fun _ => rfl) (fun _ => rfl) (by decide) (by decide) (by kernel_rfl) (by kernel_rfl) (by kernel_rfl) (by kernel_rfl) (by kernel_rfl) (by kernel_rfl) hbwA.size (own_drew hown1) (own_drew hown2) (own_apart hown1 hown2 (by decide)) (fun _ _ _ _ _ h => h.alloc _) (fun _ _ _ _ _ row hrow hg h => h.grown hg (hapS row hrow)) hS0 ?b1 ?b2 ?a1 ?a2 (fun _ _ _ h1 h2 => own_apart h1 h2 (by decide)) ?H
                  case b1 =>
                    rintro F (rfl | ⟨p, rfl⟩) W K hK
                    · exact wp_build1 37 _ rfl (.string nm) (by kernel_rfl) (run_build_str nm W) hK
                    · exact wp_build1 37 _ rfl (.string nm) (by kernel_rfl) (run_build_str nm W) hK
                  case b2 =>
                    rintro F (rfl | ⟨p, rfl⟩ | ⟨p, v, rfl⟩) W K hK
                    · exact wp_build1 36 _ rfl (valA ⟨kx, nx, nax, nlx, ncx, dx, dax, dlx, dcx, sx, rx⟩) (by kernel_rfl) (run_build_val _ W) hK
                    · exact wp_build1 36 _ rfl (valA ⟨kx, nx, nax, nlx, ncx, dx, dax, dlx, dcx, sx, rx⟩) (by kernel_rfl) (run_build_val _ W) hK
                    · exact wp_build1 36 _ rfl (valA ⟨kx, nx, nax, nlx, ncx, dx, dax, dlx, dcx, sx, rx⟩) (by kernel_rfl) (run_build_val _ W) hK
                  case a1 =>
                    intro p F hF W K hB ho hp hK
                    rcases hF with rfl | ⟨q, rfl⟩ <;> exact wp_append_lies _ _ _ _ (by rfl) w5.heap.size 9 iS _ 1 16 Try.underlying37 hiS hs0 hs1 hs2 rfl (by omega) ((.slice na' k nc')) (k) (L1) (by kernel_rfl) ho ⟨p, 0, none⟩ 1 1 [.string nm] (by kernel_rfl) (by rfl) (World.news_of_block (cs := #[.string nm]) (t := 9) (fr := (0, 0)) hp) (by simp [Value.oneCell']) (by omega) (by rw [maxLen_eq']; omega) (by omega) hB W.heap.size rfl (fun g cap w' h1 h2 h3 _ => hK g cap w' h1 h2 h3)
                  case a2 =>
                    intro p v q F hF W K hB ho hp hK
                    subst hF
                    exact wp_append_lies _ _ _ _ (by rfl) w5.heap.size 58 iV _ 7 96 Try.underlying36 hiV hv0 hv1 hv2 rfl (by omega) ((.slice va' k vc')) (k) (L2) (by kernel_rfl) ho ⟨q, 0, none⟩ 1 1 (valC ⟨kx, nx, nax, nlx, ncx, dx, dax, dlx, dcx, sx, rx⟩) (by kernel_rfl) (by rfl) (World.news_of_block (cs := (valC ⟨kx, nx, nax, nlx, ncx, dx, dax, dlx, dcx, sx, rx⟩).toArray) (t := 58) (fr := (0, 0)) hp) (by simp [Value.oneCell', valC]) (by omega) (by rw [maxLen_eq']; omega) (by omega) hB W.heap.size rfl (fun g cap w' h1 h2 h3 _ => hK g cap w' h1 h2 h3)
                  case H => as_aux_lemma =>
                    intro p k1 c1 q k2 c2 W hn1 hn2 hR _ _ hSW
                    clear hS0
                    have hS0 := hSW
                    refine wpAnyL_take (T := fun _ => True) (i := 13) (v := ?vv13) rfl (by kernel_rfl) (by kernel_rfl) (by kernel_rfl) (fun _ _ _ h => h) (fun _ _ => Iff.rfl) (fun _ _ _ _ _ => trivial) (Closed.of_B (by kernel_rfl)) (Or.inl ⟨by rfl, ?hy13⟩) hS0 ?rest13
                    case hy13 => (intro w _; go_simp; with_reducible rfl)
                    go_simp
                    refine wpAnyL_take (T := fun _ => True) (i := 14) (v := ?vv14) rfl (by kernel_rfl) (by kernel_rfl) (by kernel_rfl) (fun _ _ _ h => h) (fun _ _ => Iff.rfl) (fun _ _ _ _ _ => trivial) (Closed.of_B (by kernel_rfl)) (Or.inl ⟨by rfl, ?hy14⟩) hS0 ?rest14
                    case hy14 => (intro w _; go_simp; with_reducible rfl)
                    go_simp
                    refine wpAnyL_done (by kernel_rfl) ?_ _
                    refine NoPanic.normal ?_
                    clear hS0 hSW hapS
                    go_wp2
                    go_roundg (ps.length - (k + 1))
                    case measure => omega
                    case rel => exact ⟨k + 1, by omega, by omega, by go_num, by rw [HM2.out, HT1.out]; exact hn1, by rw [HM2.out, HT2.out]; exact hn2, hbwA.drew.trans hR.below⟩
              · as_aux_lemma =>
                  have hm2 : min (k + 1) (min PL l.length) = min k (min PL l.length) := by omega
                  have HM2 := Lib.hid hm2
                  clear hm2
                  generalize min k (min PL l.length) = mk at *
                  generalize ps[k].k = pk at *
                  generalize ps[k].n = pn at *
                  generalize ps[k].s = nm at *
                  have hbA := ext_alloc wr (.cells #[.int .i64 pk, .string nm, .slice da' pn dc'] 51)
                  have hyA := (hbA.block _ (box_lt hy1)).trans hy1
                  have hx1a := box_cell hyA 0
                  simp only [List.getElem?_toArray, List.getElem?_cons_zero] at hx1a
                  clear hy1 hyA
                  by_cases hk1 : k < PL
                  · have i1 : ((k : Int) < (PL : Int)) := by omega
                    have i2 : ¬ ((k : Int) < (l.length : Int)) := by omega
                    go_wp2
                    go_roundg (ps.length - (k + 1))
                    case measure => omega
                    case rel => exact ⟨k + 1, by omega, by omega, by go_num, by rw [HM2.out]; exact own_below hown1 hbA, by rw [HM2.out]; exact own_below hown2 hbA, ext_trans hb hbA⟩
                  · have i1 : ¬ ((k : Int) < (PL : Int)) := by omega
                    go_wp2
                    go_roundg (ps.length - (k + 1))
                    case measure => omega
                    case rel => exact ⟨k + 1, by omega, by omega, by go_num, by rw [HM2.out]; exact own_below hown1 hbA, by rw [HM2.out]; exact own_below hown2 hbA, ext_trans hb hbA⟩
            · have hm2 : min k (min PL l.length) = min PL l.length := by omega
              rw [hm2] at hown1 hown2
              have hM0 : min PL l.length ≤ l.length := Nat.min_le_right _ _
              have hM1 : min PL l.length ≤ PL := Nat.min_le_left _ _
              have hM2 : l.length ≤ PL → min PL l.length = l.length := fun h => Nat.min_eq_right h
              have hM3 : PL ≤ l.length → min PL l.length = PL := fun h => Nat.min_eq_left h
              have HM2 := Lib.hid hM2
              have HM3 := Lib.hid hM3
              clear hm2 hM2 hM3 hq hk
              generalize hMM : min PL l.length = MM at *
              have HMM := Lib.hid hMM
              clear hMM
              have hM12 : MM ≤ 12 := by omega
              go_upto_region 22 with fail
              clear hlt
              have hbO := ext_alloc wr (.cells #[.slice none 0 0, .slice none 0 0, .slice none 0 0, .slice none 0 0] 41)
              have hxO := heap_new wr (.cells #[.slice none 0 0, .slice none 0 0, .slice none 0 0, .slice none 0 0] 41)
              have hN3 : w5.heap.size ≤ wr.heap.size := hb.size
              go_upto_region 23 with fail
              obtain ⟨na', nc', rfl⟩ := own_isSlice hown1
              obtain ⟨va', vc', rfl⟩ := own_isSlice hown2
              have hnsl : MM = ((ps.take MM).map Par.s).length := by simp; omega
              have hgsl : MM = (l.take MM).length := by simp; omega
              have hO : OAt w5 (wr.alloc (.cells #[.slice none 0 0, .slice none 0 0, .slice none 0 0, .slice none 0 0] 41)) wr.heap.size (.slice na' MM nc') (.slice va' MM vc') (.slice none 0 0) (.slice none 0 0) (.slice none 0 0) ⟨(ps.take MM).map Par.s, l.take MM, [], []⟩ [] :=
                ⟨hxO, hN3, own_cast (own_below hown1 hbO) hnsl rfl, own_cast (own_below hown2 hbO) hgsl rfl, World.ownsRow_nil _ _ _ _, World.ownsRow_nil _ _ _ _, World.ownsRow_nil _ _ _ _, fun _ _ => by simp [Value.ownBlock], fun _ _ => by simp [Value.ownBlock], fun _ _ => by simp [Value.ownBlock], fun _ _ => by simp [Value.ownBlock], ext_trans hb hbO⟩
              have HNSL := Lib.hid hnsl
              have HGSL := Lib.hid hgsl
              have HO := Lib.hid hO
              generalize (wr.alloc (.cells #[.slice none 0 0, .slice none 0 0, .slice none 0 0, .slice none 0 0] 41)) = w6 at *
              generalize wr.heap.size = N3 at *
              clear hbO hxO hb hown1 hown2 hnsl hgsl hO
              have hx6 := (HO.out.below.block _ hl1).trans hx1
              have hx1a := box_cell hx6 0
              simp only [List.getElem?_toArray, List.getElem?_cons_zero] at hx1a
              go_upto_if 103 with fail
              go_cut [19] (fun s19 wx => s19 = .pointer (some ⟨N3, 0, none⟩) ∧ ∃ rv, OAt w5 wx N3 (.slice na' MM nc') (.slice va' MM vc') rv (.slice none 0 0) (.slice none 0 0) ⟨(ps.take MM).map Par.s, l.take MM, [], []⟩ (l.drop PL))
              case first => as_aux_lemma =>
                by_cases hgt : PL < l.length
                · have i1 : ((l.length : Int) > (PL : Int)) := by omega
                  obtain ⟨u, hu, -, hsl, -⟩ := RowS.sub (HL5.out.below HO.out.below) Try.underlying36 sizeVal (i := PL) (j := l.length) (Nat.le_of_lt hgt) (Nat.le_refl _)
                  have hsl := hsl rfl
                  have hfl : ((l.flatMap valC).drop (PL * 7)).take ((l.length - PL) * 7) = (l.drop PL).flatMap valC := by
                    rw [flat_drop, List.take_of_length_le (by rw [flat_length7, List.length_drop]; exact Nat.le_refl _)]
                  rw [hfl] at hu
                  obtain ⟨ua, uc, rfl⟩ := hu.isSlice
                  obtain ⟨ub, uo, rfl⟩ : ∃ ub uo, ua = some ⟨ub, uo, none⟩ := by
                    obtain ⟨a', c', e, _, _, hlen, hc⟩ := hu
                    simp only [Value.slice.injEq, true_and] at e
                    obtain ⟨rfl, rfl⟩ := e
                    obtain ⟨b, off, e, _⟩ := hc 0 (by rw [hlen]; omega)
                    exact ⟨b, off, e⟩
                  have hsrc := Lib.hid hu.src
                  have hlen := Lib.hid (show ((l.drop PL).flatMap valC).length = (l.length - PL) * 7 by rw [flat_length7, List.length_drop])
                  have c1 := box_cell HO.out.box 1
                  simp only [List.getElem?_toArray, List.getElem?_cons_zero, List.getElem?_cons_succ] at c1
                  have d1 := box_frozen HO.out.box 1
                  have hS0 : Cs [(⟨N3, 1, none⟩, .slice none 0 0), (⟨w.heap.size, 0, none⟩, .slice la l.length lc)] w6.drew := by
                    simp only [Cs, List.forall_mem_cons]
                    exact ⟨c1, hx1a, fun _ h => by cases h⟩
                  clear hu hfl
                  go_wp2
                  refine wp_region_noPanic ?_
                  refine wp_region_L (S := GS 6 [(⟨N3, 1, none⟩, .slice none 0 0), (⟨w.heap.size, 0, none⟩, .slice la l.length lc)]) (by kernel_rfl) ?_
                  refine wpAnyL_take (T := fun _ => True) (i := 0) (v := ?vvr0) rfl (by kernel_rfl) (by kernel_rfl) (by kernel_rfl) (fun _ _ _ h => h) (fun L W => GS.put (by decide)) (fun _ _ _ _ _ => trivial) (Closed.of_B (by kernel_rfl)) (Or.inl ⟨by rfl, ?hyr0⟩) (GS.mk fun _ => hS0) ?restr0
                  case hyr0 => (intro w _; go_simp; with_reducible rfl)
                  go_simp
                  refine wpAnyL_take (T := fun W => Cs [(⟨N3, 1, none⟩, .slice none 0 0), (⟨w.heap.size, 0, none⟩, .slice la l.length lc)] W) (i := 1) (v := ?vvr1) rfl (by kernel_rfl) (by kernel_rfl) (by kernel_rfl) (fun _ _ _ h => h) (fun L W => GS.put (by decide)) (fun L W hcl hl hS => hS.el (hcl.notYet (by kernel_rfl) (getD_false hl))) (Closed.of_B (by kernel_rfl)) (Or.inl ⟨by rfl, ?hyr1⟩) (GS.mk fun _ => hS0) ?restr1
                  case hyr1 => (intro W hW; simp only [Cs, List.forall_mem_cons] at hW; obtain ⟨m0, m1, -⟩ := hW; go_simp; with_reducible rfl)
                  go_simp
                  refine wpAnyL_take (T := fun _ => True) (i := 2) (v := ?vvr2) rfl (by kernel_rfl) (by kernel_rfl) (by kernel_rfl) (fun _ _ _ h => h) (fun L W => GS.put (by decide)) (fun _ _ _ _ _ => trivial) (Closed.of_B (by kernel_rfl)) (Or.inl ⟨by rfl, ?hyr2⟩) (GS.mk fun _ => hS0) ?restr2
                  case hyr2 => (intro w _; go_simp; with_reducible rfl)
                  go_simp
                  refine wpAnyL_take (T := fun W => Cs [(⟨N3, 1, none⟩, .slice none 0 0), (⟨w.heap.size, 0, none⟩, .slice la l.length lc)] W) (i := 3) (v := ?vvr3) rfl (by kernel_rfl) (by kernel_rfl) (by kernel_rfl) (fun _ _ _ h => h) (fun L W => GS.put (by decide)) (fun L W hcl hl hS => hS.el (hcl.notYet (i := 5) (by kernel_rfl) (hcl.notYet (by kernel_rfl) (getD_false hl)))) (Closed.of_B (by kernel_rfl)) (Or.inl ⟨by rfl, ?hyr3⟩) (GS.mk fun _ => hS0) ?restr3
                  case hyr3 => (intro W hW; simp only [Cs, List.forall_mem_cons] at hW; obtain ⟨m0, m1, -⟩ := hW; go_simp; with_reducible rfl)
                  go_simp
                  refine wpAnyL_take (T := fun _ => True) (i := 4) (v := ?vvr4) rfl (by kernel_rfl) (by kernel_rfl) (by kernel_rfl) (fun _ _ _ h => h) (fun L W => GS.put (by decide)) (fun _ _ _ _ _ => trivial) (Closed.of_B (by kernel_rfl)) (Or.inl ⟨by rfl, ?hyr4⟩) (GS.mk fun _ => hS0) ?restr4
                  case hyr4 => (intro w _; go_simp; with_reducible rfl)
                  go_simp
                  refine wpAnyL_take (T := fun _ => True) (i := 5) (v := ?vvr5) rfl (by kernel_rfl) (by kernel_rfl) (by kernel_rfl) (fun _ _ _ h => h) (fun L W => GS.put (by decide)) (fun _ _ _ _ _ => trivial) (Closed.of_B (by kernel_rfl)) (Or.inl ⟨by rfl, ?hyr5⟩) (GS.mk fun _ => hS0) ?restr5
                  case hyr5 => (intro w _; go_simp; with_reducible rfl)
                  go_simp
                  refine wpAnyL_ready (rs := [6]) (by kernel_rfl) (by simp) ?_
                  refine AllL.cons rfl (by rfl) (fun K hK => ?_) AllL.nil
                  refine wp_append_lies _ _ _ _ (by rfl) w5.heap.size 58 iV _ 7 96 Try.underlying36 hiV hv0 hv1 hv2 rfl (by omega) (.slice none 0 0) 0 [] (by kernel_rfl) (World.ownsRow_nil _ _ _ _) ⟨ub, uo, none⟩ (l.length - PL) uc ((l.drop PL).flatMap valC) (by kernel_rfl) hlen.out hsrc.out (flat_one _) (by omega) (by rw [maxLen_eq']; omega) (by omega) (by have := HO.out.below.size; simpa using this) w6.heap.size (by simp) ?_
                  intro g cap w7 hown hgr hat hlt7
                  simp only [Nat.zero_add, List.nil_append] at hown hat
                  refine hK _ _ ⟨GS.mk fun h => Bool.noConfusion ((show _ = true by kernel_rfl).symm.trans h), ?_⟩
                  clear hK K
                  have hbx := (hgr.block N3 (box_lt HO.out.box) (by simp [Value.ownBlock])).trans HO.out.box
                  have c1b := box_cell hbx 1
                  simp only [List.getElem?_toArray, List.getElem?_cons_zero, List.getElem?_cons_succ] at c1b
                  have d1b := box_frozen hbx 1
                  refine wpAnyL_ready (rs := [7]) (by kernel_rfl) (by simp) ?_
                  refine AllL.cons rfl (by rfl) (fun K hK => ?_) AllL.nil
                  go_simp
                  refine hK _ _ ⟨GS.mk fun h => Bool.noConfusion ((show _ = true by kernel_rfl).symm.trans h), ?_⟩
                  clear hK K
                  refine wpAnyL_ready (rs := [8]) (by kernel_rfl) (by simp) ?_
                  refine AllL.cons rfl (by rfl) (fun K hK => ?_) AllL.nil
                  go_simp
                  refine hK _ _ ⟨GS.mk fun h => Bool.noConfusion ((show _ = true by kernel_rfl).symm.trans h), ?_⟩
                  clear hK K
                  refine wpAnyL_done (by kernel_rfl) ?_ _
                  refine NoPanic.normal ?_
                  go_wp2
                  go_meet
                  exact ⟨rfl, _, HO.out.rested hgr (own_cast hown (by simp) rfl) (fun q hq => by simp only [Value.ownBlock, Option.some.injEq] at hq; subst hq; rcases hat with h | h; exact absurd h (by simp [Value.ownBlock]); omega)⟩
                · have i1 : ¬ ((l.length : Int) > (PL : Int)) := by omega
                  go_wp2
                  go_meet
                  refine ⟨rfl, .slice none 0 0, ?_⟩
                  rw [List.drop_of_length_le (by omega)]
                  exact HO.out
              case rest =>
                obtain ⟨rfl, rv, hO2⟩ := hcut
                have HO2 := Lib.hid hO2
                clear HO hO2 hx6 hx1a
                skip
                have hy1 := (HO2.out.below.block _ hl1).trans hx1
                have hx1b := box_cell hy1 1
                simp only [List.getElem?_toArray, List.getElem?_cons_zero, List.getElem?_cons_succ] at hx1b
                have HZL := Lib.hid (show (names.zip named).length = names.length by rw [List.length_zip]; have := HNM.out; omega)
                go_wp2
                clear hx1b hy1
                go_loopg [15, 16, 115] names.length (fun q s15 s16 s115 wx => ∃ k : Nat, ∃ v15 v16 nv mv, ∃ st : RSt Val, k ≤ names.length ∧ names.length - k ≤ q ∧ s115 = .int .i64 k ∧ s15 = v15 ∧ s16 = v16 ∧ OAt w5 wx N3 v15 v16 rv nv mv st (l.drop PL) ∧
                  Hid (RR = refCont ps ds l (refGo ps st ((names.zip named).drop k))) ∧ st.ns.length = st.gs.length ∧ st.ns.length ≤ 12 + k ∧ st.names.length ≤ k ∧ st.named.length ≤ k)
                case atStart => exact ⟨0, _, _, _, _, _, Nat.zero_le _, by omega, rfl, rfl, rfl, HO2.out, HR, by rw [← HNSL.out, ← HGSL.out], by rw [← HNSL.out]; exact hM12, Nat.le_refl _, Nat.le_refl _⟩
                case round =>
                  clear HR HO2
                  obtain ⟨k, v15, v16, nv, mv, st, hk, hq, rfl, rfl, rfl, hO3, HRR, hll, hb1, hb2, hb3⟩ := hrel
                  have HLL := Lib.hid hll
                  have HO3 := Lib.hid hO3
                  have hgl : st.gs.length ≤ 12 + k := by omega
                  clear hO3 hll
                  by_cases hlt : k < names.length
                  · have hkm : k < named.length := by have := HNM.out; omega
                    obtain ⟨ax, cx, hee, _, _, hcc⟩ := HN5.out.below HO3.out.below
                    simp only [Value.slice.injEq, true_and] at hee
                    obtain ⟨rfl, rfl⟩ := hee
                    obtain ⟨bn, on, rfl, hnc⟩ := hcc k hlt
                    clear hcc
                    have hdrop : (names.zip named).drop k = (names[k], named[k]) :: (names.zip named).drop (k + 1) := by
                      rw [List.drop_eq_getElem_cons (by rw [HZL.out]; exact hlt), List.getElem_zip]
                    have hns := HNS.out names[k] (List.getElem_mem hlt)
                    have hRR := HRR.out
                    rw [hdrop] at hRR
                    have HR0 := Lib.hid hRR
                    clear HRR hRR hdrop
                    obtain ⟨mb, mo, rfl, q0, -, -, -, -, -, -⟩ := ValsAt.at HM5.out hkm
                    have hmb := World.block_lt_of_cell? _ _ q0
                    clear q0
                    generalize names[k] = nm at *
                    obtain ⟨na0, nc0, hs15⟩ := own_isSlice HO3.out.ns
                    have hhs := HasString_any _ st.ns nm wr (names_row HO3.out.ns)
                    have HH := Lib.hid hhs
                    clear hhs
                    subst hs15
                    go_wp2_with fail
                    refine HH.out.mono ?_
                    rintro e wh ⟨rfl, hbh⟩
                    have hO3 := HO3.out.under hbh
                    clear HO3 HH hbh hnc
                    have HO3 := Lib.hid hO3
                    clear hO3
                    cases hany : st.ns.any (sameN nm) with
                    | true => as_aux_lemma =>
                      have HR := Lib.hid (show RR = .inl (.two nm) by rw [HR0.out, refGo_two hany]; rfl)
                      clear HR0 hany
                      have hy2 := (HO3.out.below.block _ hl2).trans hx2
                      obtain ⟨q0, q1, q2, q3, qf, ql⟩ := box4 hy2
                      have f0 := qf 0
                      have f1 := qf 1
                      have f2 := qf 2
                      have f3 := qf 3
                      clear qf
                      go_wp2
                      obtain ⟨t0, t1, t2, t3, -, -⟩ := box4 (res1_set hy2 (.slice none 0 0) (.slice none 0 0) (.slice none 0 0) (.slice none 0 0))
                      refine bodyPost_ret (v := .tuple #[nilBd, .string (msgT fn (.two nm))]) (by simp [results, Try.results21, go_sem, t0, t1, t2, t3, nilBd, msgT]) rfl ?_
                      exact ⟨below_res1 (ext_trans hbw HO3.out.below) (Nat.le_of_lt hN1) _ _ _ _, .inl ⟨_, HRX.out.trans HR.out, rfl⟩⟩
                    | false =>
                      have HANY := Lib.hid hany
                      clear hany
                      generalize hgx : named[k] = x at *
                      have HGX := Lib.hid hgx
                      clear hgx
                      obtain ⟨kx, nx, nax, nlx, ncx, dx, dax, dlx, dcx, sx, rx⟩ := x
                      obtain ⟨wo, hwo⟩ : ∃ wo : World, wo = wh := ⟨_, rfl⟩
                      subst hwo
                      go_wp2
                      go_loopg [22, 131] ps.length (fun q s22 s131 wx => ∃ j : Nat, j ≤ ps.length ∧ ps.length - j ≤ q ∧ s131 = .int .i64 j ∧ s22 = .bool ((ps.take j).any fun p => sameN nm p.s && own p) ∧ Below wo.heap.size wo wx)
                      case atStart => exact ⟨0, Nat.zero_le _, by omega, rfl, rfl, Below.refl _ _⟩
                      case round =>
                        obtain ⟨j, hj, hqj, rfl, rfl, hbj⟩ := hrel
                        by_cases hltj : j < ps.length
                        · as_aux_lemma =>
                            obtain ⟨a', c', he, _, _, hc⟩ := HV5.out.below (ext_trans HO3.out.below hbj)
                            simp only [Value.slice.injEq, true_and] at he
                            obtain ⟨rfl, rfl⟩ := he
                            obtain ⟨b, off, da', dc', rfl, z0, z1, z2⟩ := hc j hltj
                            clear hc
                            have HTK := Lib.hid (show ((ps.take (j + 1)).any fun p => sameN nm p.s && own p) = (((ps.take j).any fun p => sameN nm p.s && own p) || (sameN nm ps[j].s && own ps[j])) by rw [List.take_succ_eq_append_getElem hltj, List.any_append]; simp)
                            have HOW := Lib.hid (show own ps[j] = (ps[j].k == 0 || ps[j].k == 2) from rfl)
                            have HSN := Lib.hid (show sameN nm ps[j].s = (ps[j].s.toList == nm.toList) from rfl)
                            generalize ((ps.take j).any fun p => sameN nm p.s && own p) = cur at *
                            generalize own ps[j] = ow at *
                            generalize sameN nm ps[j].s = sn at *
                            generalize ps[j].k = pk at *
                            generalize ps[j].n = pn at *
                            generalize ps[j].s = pnm at *
                            have hbA := ext_alloc wr (.cells #[.int .i64 pk, .string pnm, .slice da' pn dc'] 51)
                            cases cur with
                            | true =>
                              go_wp2
                              go_roundg (ps.length - (j + 1))
                              case measure => omega
                              case rel => exact ⟨j + 1, by omega, by omega, by go_num, by rw [HTK.out]; rfl, ext_trans hbj hbA⟩
                            | false =>
                              cases hs : (pnm.toList == nm.toList) with
                              | false =>
                                have HF := Lib.hid (show (false || (sn && ow)) = false by rw [HSN.out, hs]; rfl)
                                go_wp2
                                go_roundg (ps.length - (j + 1))
                                case measure => omega
                                case rel => exact ⟨j + 1, by omega, by omega, by go_num, by rw [HTK.out, HF.out], ext_trans hbj hbA⟩
                              | true =>
                                cases h0 : (pk == 0) with
                                | true =>
                                  have HF := Lib.hid (show (false || (sn && ow)) = true by rw [HSN.out, hs, HOW.out, h0]; rfl)
                                  go_wp2
                                  go_roundg (ps.length - (j + 1))
                                  case measure => omega
                                  case rel => exact ⟨j + 1, by omega, by omega, by go_num, by rw [HTK.out, HF.out], ext_trans hbj hbA⟩
                                | false =>
                                  cases h2 : (pk == 2) with
                                  | true =>
                                    have HF := Lib.hid (show (false || (sn && ow)) = true by rw [HSN.out, hs, HOW.out, h0, h2]; rfl)
                                    go_wp2
                                    go_roundg (ps.length - (j + 1))
                                    case measure => omega
                                    case rel => exact ⟨j + 1, by omega, by omega, by go_num, by rw [HTK.out, HF.out], ext_trans hbj hbA⟩
                                  | false =>
                                    have HF := Lib.hid (show (false || (sn && ow)) = false by rw [HSN.out, hs, HOW.out, h0, h2]; rfl)
                                    go_wp2
                                    go_roundg (ps.length - (j + 1))
                                    case measure => omega
                                    case rel => exact ⟨j + 1, by omega, by omega, by go_num, by rw [HTK.out, HF.out], ext_trans hbj hbA⟩
                        · have hj' : j = ps.length := by omega
                          have hTT : ((ps.take j).any fun p => sameN nm p.s && own p) = (ps.any fun p => sameN nm p.s && own p) := by rw [hj', List.take_of_length_le (Nat.le_refl _)]
                          rw [hTT]
                          clear hTT hj' hqj hj
                          have hO3b := HO3.out.under hbj
                          clear HO3 hbj
                          have HO3 := Lib.hid hO3b
                          clear hO3b
                          generalize hOW : (ps.any fun p => sameN nm p.s && own p) = ow at *
                          have HOW := Lib.hid hOW
                          clear hOW
                          cases ow with
                          | true => as_aux_lemma =>
                            have HR := Lib.hid (HR0.out.trans (by rw [refGo_own HANY.out HOW.out]))
                            clear HR0
                            obtain ⟨va', vc', rfl⟩ := own_isSlice HO3.out.gs
                            obtain ⟨mb', mo', e, q0, q1, q2, q3, q4, q5, q6⟩ := ValsAt.at (HM5.out.below HO3.out.below) hkm
                            simp only [Option.some.injEq, Addr.mk.injEq, and_true] at e
                            obtain ⟨rfl, rfl⟩ := e
                            have hxm := box_cell ((HO3.out.below.block _ hl1).trans hx1) 2
                            simp only [List.getElem?_toArray, List.getElem?_cons_zero, List.getElem?_cons_succ] at hxm
                            rw [HGX.out] at q0 q1 q2 q3 q4 q5 q6
                            simp only at q0 q1 q2 q3 q4 q5 q6
                            have hS0 : Cs [(⟨w.heap.size, 2, none⟩, .slice (some ⟨mb, mo, none⟩) named.length mc), (⟨mb, mo + k * 7, none⟩, .int .i64 kx), (⟨mb, mo + k * 7 + 1, none⟩, .bool nx), (⟨mb, mo + k * 7 + 2, none⟩, .slice nax nlx ncx), (⟨mb, mo + k * 7 + 3, none⟩, .bool dx), (⟨mb, mo + k * 7 + 4, none⟩, .slice dax dlx dcx), (⟨mb, mo + k * 7 + 5, none⟩, .string sx), (⟨mb, mo + k * 7 + 6, none⟩, .int .i64 rx)] wr.drew := by
                              simp only [Cs, List.forall_mem_cons]
                              exact ⟨hxm, q0, q1, q2, q3, q4, q5, q6, fun _ h => by cases h⟩
                            have hapS : ∀ row, row = (Value.slice na0 st.ns.length nc0).ownBlock ∨ row = (Value.slice va' st.gs.length vc').ownBlock → ∀ x ∈ ([(⟨w.heap.size, 2, none⟩, .slice (some ⟨mb, mo, none⟩) named.length mc), (⟨mb, mo + k * 7, none⟩, .int .i64 kx), (⟨mb, mo + k * 7 + 1, none⟩, .bool nx), (⟨mb, mo + k * 7 + 2, none⟩, .slice nax nlx ncx), (⟨mb, mo + k * 7 + 3, none⟩, .bool dx), (⟨mb, mo + k * 7 + 4, none⟩, .slice dax dlx dcx), (⟨mb, mo + k * 7 + 5, none⟩, .string sx), (⟨mb, mo + k * 7 + 6, none⟩, .int .i64 rx)] : List (Addr × Value)), some x.1.block ≠ row := by
                              intro row hrow
                              refine Cs.apart (lo := w5.heap.size) (hi := wr.heap.size) (by rcases hrow with rfl | rfl; exact HO3.out.ns.lt; exact HO3.out.gs.lt) ?_
                              simp only [List.forall_mem_cons]
                              exact ⟨.inl hl1, .inl hmb, .inl hmb, .inl hmb, .inl hmb, .inl hmb, .inl hmb, .inl hmb, fun _ h => by cases h⟩
                            have hB7 := HO3.out.below.size
                            have ho1 : wr.drew.ownsRow w5.heap.size 9 1 (.slice na0 st.ns.length nc0) st.ns.length (st.ns.map Value.string) := own_drew HO3.out.ns
                            have ho2 : wr.drew.ownsRow w5.heap.size 58 7 (.slice va' st.gs.length vc') st.gs.length (st.gs.flatMap valC) := own_drew HO3.out.gs
                            go_wp2
                            clear hxm q0 q1 q2 q3 q4 q5 q6
                            refine wp_region_noPanic ?_
                            refine wp_region_L (S := fun _ W => Cs [(⟨w.heap.size, 2, none⟩, .slice (some ⟨mb, mo, none⟩) named.length mc), (⟨mb, mo + k * 7, none⟩, .int .i64 kx), (⟨mb, mo + k * 7 + 1, none⟩, .bool nx), (⟨mb, mo + k * 7 + 2, none⟩, .slice nax nlx ncx), (⟨mb, mo + k * 7 + 3, none⟩, .bool dx), (⟨mb, mo + k * 7 + 4, none⟩, .slice dax dlx dcx), (⟨mb, mo + k * 7 + 5, none⟩, .string sx), (⟨mb, mo + k * 7 + 6, none⟩, .int .i64 rx)] W) (by kernel_rfl) ?_
                            refine wpAnyL_take (T := fun _ => True) (i := 0) (v := ?vvs0) rfl (by kernel_rfl) (by kernel_rfl) (by kernel_rfl) (fun _ _ _ h => h) (fun _ _ => Iff.rfl) (fun _ _ _ _ _ => trivial) (Closed.of_B (by kernel_rfl)) (Or.inl ⟨by rfl, ?hys0⟩) hS0 ?rests0
                            case hys0 => (intro w _; go_simp; with_reducible rfl)
                            go_simp
                            refine wpAnyL_take (T := fun _ => True) (i := 1) (v := ?vvs1) rfl (by kernel_rfl) (by kernel_rfl) (by kernel_rfl) (fun _ _ _ h => h) (fun _ _ => Iff.rfl) (fun _ _ _ _ _ => trivial) (Closed.of_B (by kernel_rfl)) (Or.inl ⟨by rfl, ?hys1⟩) hS0 ?rests1
                            case hys1 => (intro w _; go_simp; with_reducible rfl)
                            go_simp
                            refine wpAnyL_take (T := fun _ => True) (i := 4) (v := ?vvs4) rfl (by kernel_rfl) (by kernel_rfl) (by kernel_rfl) (fun _ _ _ h => h) (fun _ _ => Iff.rfl) (fun _ _ _ _ _ => trivial) (Closed.of_B (by kernel_rfl)) (Or.inl ⟨by rfl, ?hys4⟩) hS0 ?rests4
                            case hys4 => (intro w _; go_simp; with_reducible rfl)
                            go_simp
                            refine wpAnyL_take (T := fun _ => True) (i := 5) (v := ?vvs5) rfl (by kernel_rfl) (by kernel_rfl) (by kernel_rfl) (fun _ _ _ h => h) (fun _ _ => Iff.rfl) (fun _ _ _ _ _ => trivial) (Closed.of_B (by kernel_rfl)) (Or.inl ⟨by rfl, ?hys5⟩) hS0 ?rests5
                            case hys5 => (intro w _; go_simp; with_reducible rfl)
                            go_simp
                            refine wpAnyL_take (T := fun W => Cs [(⟨w.heap.size, 2, none⟩, .slice (some ⟨mb, mo, none⟩) named.length mc), (⟨mb, mo + k * 7, none⟩, .int .i64 kx), (⟨mb, mo + k * 7 + 1, none⟩, .bool nx), (⟨mb, mo + k * 7 + 2, none⟩, .slice nax nlx ncx), (⟨mb, mo + k * 7 + 3, none⟩, .bool dx), (⟨mb, mo + k * 7 + 4, none⟩, .slice dax dlx dcx), (⟨mb, mo + k * 7 + 5, none⟩, .string sx), (⟨mb, mo + k * 7 + 6, none⟩, .int .i64 rx)] W) (i := 6) (v := ?vvs6) rfl (by kernel_rfl) (by kernel_rfl) (by kernel_rfl) (fun _ _ _ h => h) (fun _ _ => Iff.rfl) (fun _ _ _ _ h => h) (Closed.of_B (by kernel_rfl)) (Or.inl ⟨by rfl, ?hys6⟩) hS0 ?rests6
                            case hys6 => (intro W hW; simp only [Cs, List.forall_mem_cons] at hW; obtain ⟨m0, m1, m2, m3, m4, m5, m6, m7, -⟩ := hW; go_simp; with_reducible rfl)
                            go_simp
                            refine wpAnyL_take (T := fun _ => True) (i := 7) (v := ?vvs7) rfl (by kernel_rfl) (by kernel_rfl) (by kernel_rfl) (fun _ _ _ h => h) (fun _ _ => Iff.rfl) (fun _ _ _ _ _ => trivial) (Closed.of_B (by kernel_rfl)) (Or.inl ⟨by rfl, ?hys7⟩) hS0 ?rests7
                            case hys7 => (intro w _; go_simp; with_reducible rfl)
                            go_simp
                            refine wpAnyL_take (T := fun _ => True) (i := 8) (v := ?vvs8) rfl (by kernel_rfl) (by kernel_rfl) (by kernel_rfl) (fun _ _ _ h => h) (fun _ _ => Iff.rfl) (fun _ _ _ _ _ => trivial) (Closed.of_B (by kernel_rfl)) (Or.inl ⟨by rfl, ?hys8⟩) hS0 ?rests8
                            case hys8 => (intro w _; go_simp; with_reducible rfl)
                            go_simp
                            refine wpAnyL_take (T := fun W => Cs [(⟨w.heap.size, 2, none⟩, .slice (some ⟨mb, mo, none⟩) named.length mc), (⟨mb, mo + k * 7, none⟩, .int .i64 kx), (⟨mb, mo + k * 7 + 1, none⟩, .bool nx), (⟨mb, mo + k * 7 + 2, none⟩, .slice nax nlx ncx), (⟨mb, mo + k * 7 + 3, none⟩, .bool dx), (⟨mb, mo + k * 7 + 4, none⟩, .slice dax dlx dcx), (⟨mb, mo + k * 7 + 5, none⟩, .string sx), (⟨mb, mo + k * 7 + 6, none⟩, .int .i64 rx)] W) (i := 9) (v := ?vvs9) rfl (by kernel_rfl) (by kernel_rfl) (by kernel_rfl) (fun _ _ _ h => h) (fun _ _ => Iff.rfl) (fun _ _ _ _ h => h) (Closed.of_B (by kernel_rfl)) (Or.inl ⟨by rfl, ?hys9⟩) hS0 ?rests9
                            case hys9 => (intro W hW; simp only [Cs, List.forall_mem_cons] at hW; obtain ⟨m0, m1, m2, m3, m4, m5, m6, m7, -⟩ := hW; go_simp; with_reducible rfl)
                            go_simp
                            refine two_appends (i1 := 2) (i2 := 3) (j1 := 10) (j2 := 11) (d1 := 167) (d2 := 168) (f1 := 175) (f2 := 176) (e1 := 9) (e2 := 58) (t1 := 9) (t2 := 58) (z1 := 1) (z2 := 7) (n1 := st.ns.length) (n2 := st.gs.length) (v1 := (.slice na0 st.ns.length nc0)) (v2 := (.slice va' st.gs.length vc')) (xs1 := (st.ns.map Value.string)) (xs2 := (st.gs.flatMap valC)) (C1 := #[.string nm]) (C2 := (valC ⟨kx, nx, nax, nlx, ncx, dx, dax, dlx, dcx, sx, rx⟩).toArray) w5.heap.size rfl rfl rfl rfl (fun _ => rfl) (fun _ => rfl) (fun _ => rfl) (fun _ => rfl) (by decide) (by decide) (by kernel_rfl) (by kernel_rfl) (by kernel_rfl) (by kernel_rfl) (by kernel_rfl) (by kernel_rfl) hB7 ho1 ho2 (own_apart ho1 ho2 (by decide)) (fun _ _ _ _ _ h => h.alloc _) (fun _ _ _ _ _ row hrow hg h => h.grown hg (hapS row hrow)) hS0 ?b1s ?b2s ?a1s ?a2s (fun _ _ _ h1 h2 => own_apart h1 h2 (by decide)) ?Hs
                            case b1s =>
                              rintro F (rfl | ⟨p, rfl⟩) W K hK
                              · exact wp_build1 37 _ rfl (.string nm) (by kernel_rfl) (run_build_str nm W) hK
                              · exact wp_build1 37 _ rfl (.string nm) (by kernel_rfl) (run_build_str nm W) hK
                            case b2s =>
                              rintro F (rfl | ⟨p, rfl⟩ | ⟨p, v, rfl⟩) W K hK
                              · exact wp_build1 36 _ rfl (valA ⟨kx, nx, nax, nlx, ncx, dx, dax, dlx, dcx, sx, rx⟩) (by kernel_rfl) (run_build_val _ W) hK
                              · exact wp_build1 36 _ rfl (valA ⟨kx, nx, nax, nlx, ncx, dx, dax, dlx, dcx, sx, rx⟩) (by kernel_rfl) (run_build_val _ W) hK
                              · exact wp_build1 36 _ rfl (valA ⟨kx, nx, nax, nlx, ncx, dx, dax, dlx, dcx, sx, rx⟩) (by kernel_rfl) (run_build_val _ W) hK
                            case a1s =>
                              intro p F hF W K hB ho hp hK
                              rcases hF with rfl | ⟨q, rfl⟩ <;> exact wp_append_lies _ _ _ _ (by rfl) w5.heap.size 9 iS _ 1 16 Try.underlying37 hiS hs0 hs1 hs2 rfl (by omega) ((.slice na0 st.ns.length nc0)) (st.ns.length) ((st.ns.map Value.string)) (by kernel_rfl) ho ⟨p, 0, none⟩ 1 1 [.string nm] (by kernel_rfl) (by rfl) (World.news_of_block (cs := #[.string nm]) (t := 9) (fr := (0, 0)) hp) (by simp [Value.oneCell']) (by omega) (by rw [maxLen_eq']; omega) (by omega) hB W.heap.size rfl (fun g cap w' h1 h2 h3 _ => hK g cap w' h1 h2 h3)
                            case a2s =>
                              intro p v q F hF W K hB ho hp hK
                              subst hF
                              exact wp_append_lies _ _ _ _ (by rfl) w5.heap.size 58 iV _ 7 96 Try.underlying36 hiV hv0 hv1 hv2 rfl (by omega) ((.slice va' st.gs.length vc')) (st.gs.length) ((st.gs.flatMap valC)) (by kernel_rfl) ho ⟨q, 0, none⟩ 1 1 (valC ⟨kx, nx, nax, nlx, ncx, dx, dax, dlx, dcx, sx, rx⟩) (by kernel_rfl) (by rfl) (World.news_of_block (cs := (valC ⟨kx, nx, nax, nlx, ncx, dx, dax, dlx, dcx, sx, rx⟩).toArray) (t := 58) (fr := (0, 0)) hp) (by simp [Value.oneCell', valC]) (by omega) (by rw [maxLen_eq']; omega) (by omega) hB W.heap.size rfl (fun g cap w' h1 h2 h3 _ => hK g cap w' h1 h2 h3)
                            case Hs => as_aux_lemma =>
                              intro p k1 c1 q k2 c2 W hn1 hn2 hR hk1 hk2 hSW
                              clear hS0
                              have hS0 := hSW
                              refine wpAnyL_take (T := fun _ => True) (i := 12) (v := ?vvs12) rfl (by kernel_rfl) (by kernel_rfl) (by kernel_rfl) (fun _ _ _ h => h) (fun _ _ => Iff.rfl) (fun _ _ _ _ _ => trivial) (Closed.of_B (by kernel_rfl)) (Or.inl ⟨by rfl, ?hys12⟩) hS0 ?rests12
                              case hys12 => (intro w _; go_simp; with_reducible rfl)
                              go_simp
                              refine wpAnyL_take (T := fun _ => True) (i := 13) (v := ?vvs13) rfl (by kernel_rfl) (by kernel_rfl) (by kernel_rfl) (fun _ _ _ h => h) (fun _ _ => Iff.rfl) (fun _ _ _ _ _ => trivial) (Closed.of_B (by kernel_rfl)) (Or.inl ⟨by rfl, ?hys13⟩) hS0 ?rests13
                              case hys13 => (intro w _; go_simp; with_reducible rfl)
                              go_simp
                              refine wpAnyL_done (by kernel_rfl) ?_ _
                              refine NoPanic.normal ?_
                              clear hS0 hSW hapS
                              have hO4 := (HO3.out.drewN 1).push1 (nm := nm) (x := ⟨kx, nx, nax, nlx, ncx, dx, dax, dlx, dcx, sx, rx⟩) hn1 hn2 hR hk1 hk2
                              have HO4 := Lib.hid hO4
                              clear hO4 hn1 hn2 hR hk1 hk2 ho1 ho2
                              go_wp2
                              go_roundg (names.length - (k + 1))
                              case measure => omega
                              case rel => exact ⟨k + 1, _, _, _, _, _, by omega, by omega, by go_num, rfl, rfl, HO4.out, HR, by simp [HLL.out], by simp; omega, by simp; omega, by simp; omega⟩
                          | false =>
                            cases PR with
                            | false => as_aux_lemma =>
                              have HR := Lib.hid (show RR = .inl (.unknown nm) by rw [HR0.out, refGo_unknown HANY.out HOW.out HPR.out]; rfl)
                              clear HR0
                              have hy2 := (HO3.out.below.block _ hl2).trans hx2
                              obtain ⟨q0, q1, q2, q3, qf, ql⟩ := box4 hy2
                              have f0 := qf 0
                              have f1 := qf 1
                              have f2 := qf 2
                              have f3 := qf 3
                              clear qf
                              go_wp2
                              obtain ⟨t0, t1, t2, t3, -, -⟩ := box4 (res1_set hy2 (.slice none 0 0) (.slice none 0 0) (.slice none 0 0) (.slice none 0 0))
                              refine bodyPost_ret (v := .tuple #[nilBd, .string (msgT fn (.unknown nm))]) (by simp [results, Try.results21, go_sem, t0, t1, t2, t3, nilBd, msgT]) rfl ?_
                              exact ⟨below_res1 (ext_trans hbw HO3.out.below) (Nat.le_of_lt hN1) _ _ _ _, .inl ⟨_, HRX.out.trans HR.out, rfl⟩⟩
                            | true => as_aux_lemma =>
                              have HR := Lib.hid (HR0.out.trans (by rw [refGo_pairs HANY.out HOW.out HPR.out]))
                              clear HR0
                              obtain ⟨va', vc', rfl⟩ := own_isSlice HO3.out.gs
                              obtain ⟨mb', mo', e, q0, q1, q2, q3, q4, q5, q6⟩ := ValsAt.at (HM5.out.below HO3.out.below) hkm
                              simp only [Option.some.injEq, Addr.mk.injEq, and_true] at e
                              obtain ⟨rfl, rfl⟩ := e
                              have hxm := box_cell ((HO3.out.below.block _ hl1).trans hx1) 2
                              simp only [List.getElem?_toArray, List.getElem?_cons_zero, List.getElem?_cons_succ] at hxm
                              rw [HGX.out] at q0 q1 q2 q3 q4 q5 q6
                              simp only at q0 q1 q2 q3 q4 q5 q6
                              have hS0 : Cs [(⟨w.heap.size, 2, none⟩, .slice (some ⟨mb, mo, none⟩) named.length mc), (⟨mb, mo + k * 7, none⟩, .int .i64 kx), (⟨mb, mo + k * 7 + 1, none⟩, .bool nx), (⟨mb, mo + k * 7 + 2, none⟩, .slice nax nlx ncx), (⟨mb, mo + k * 7 + 3, none⟩, .bool dx), (⟨mb, mo + k * 7 + 4, none⟩, .slice dax dlx dcx), (⟨mb, mo + k * 7 + 5, none⟩, .string sx), (⟨mb, mo + k * 7 + 6, none⟩, .int .i64 rx)] wr.drew := by
                                simp only [Cs, List.forall_mem_cons]
                                exact ⟨hxm, q0, q1, q2, q3, q4, q5, q6, fun _ h => by cases h⟩
                              have hapS : ∀ row, row = (Value.slice na0 st.ns.length nc0).ownBlock ∨ row = (Value.slice va' st.gs.length vc').ownBlock → ∀ x ∈ ([(⟨w.heap.size, 2, none⟩, .slice (some ⟨mb, mo, none⟩) named.length mc), (⟨mb, mo + k * 7, none⟩, .int .i64 kx), (⟨mb, mo + k * 7 + 1, none⟩, .bool nx), (⟨mb, mo + k * 7 + 2, none⟩, .slice nax nlx ncx), (⟨mb, mo + k * 7 + 3, none⟩, .bool dx), (⟨mb, mo + k * 7 + 4, none⟩, .slice dax dlx dcx), (⟨mb, mo + k * 7 + 5, none⟩, .string sx), (⟨mb, mo + k * 7 + 6, none⟩, .int .i64 rx)] : List (Addr × Value)), some x.1.block ≠ row := by
                                intro row hrow
                                refine Cs.apart (lo := w5.heap.size) (hi := wr.heap.size) (by rcases hrow with rfl | rfl; exact HO3.out.ns.lt; exact HO3.out.gs.lt) ?_
                                simp only [List.forall_mem_cons]
                                exact ⟨.inl hl1, .inl hmb, .inl hmb, .inl hmb, .inl hmb, .inl hmb, .inl hmb, .inl hmb, fun _ h => by cases h⟩
                              have hB7 := HO3.out.below.size
                              have ho1 : wr.drew.ownsRow w5.heap.size 9 1 (.slice na0 st.ns.length nc0) st.ns.length (st.ns.map Value.string) := own_drew HO3.out.ns
                              have ho2 : wr.drew.ownsRow w5.heap.size 58 7 (.slice va' st.gs.length vc') st.gs.length (st.gs.flatMap valC) := own_drew HO3.out.gs
                              go_wp2
                              clear hxm q0 q1 q2 q3 q4 q5 q6
                              refine wp_region_noPanic ?_
                              refine wp_region_L (S := fun _ W => Cs [(⟨w.heap.size, 2, none⟩, .slice (some ⟨mb, mo, none⟩) named.length mc), (⟨mb, mo + k * 7, none⟩, .int .i64 kx), (⟨mb, mo + k * 7 + 1, none⟩, .bool nx), (⟨mb, mo + k * 7 + 2, none⟩, .slice nax nlx ncx), (⟨mb, mo + k * 7 + 3, none⟩, .bool dx), (⟨mb, mo + k * 7 + 4, none⟩, .slice dax dlx dcx), (⟨mb, mo + k * 7 + 5, none⟩, .string sx), (⟨mb, mo + k * 7 + 6, none⟩, .int .i64 rx)] W) (by kernel_rfl) ?_
                              refine wpAnyL_take (T := fun _ => True) (i := 0) (v := ?vvu0) rfl (by kernel_rfl) (by kernel_rfl) (by kernel_rfl) (fun _ _ _ h => h) (fun _ _ => Iff.rfl) (fun _ _ _ _ _ => trivial) (Closed.of_B (by kernel_rfl)) (Or.inl ⟨by rfl, ?hyu0⟩) hS0 ?restu0
                              case hyu0 => (intro w _; go_simp; with_reducible rfl)
                              go_simp
                              refine wpAnyL_take (T := fun _ => True) (i := 1) (v := ?vvu1) rfl (by kernel_rfl) (by kernel_rfl) (by kernel_rfl) (fun _ _ _ h => h) (fun _ _ => Iff.rfl) (fun _ _ _ _ _ => trivial) (Closed.of_B (by kernel_rfl)) (Or.inl ⟨by rfl, ?hyu1⟩) hS0 ?restu1
                              case hyu1 => (intro w _; go_simp; with_reducible rfl)
                              go_simp
                              refine wpAnyL_take (T := fun _ => True) (i := 4) (v := ?vvu4) rfl (by kernel_rfl) (by kernel_rfl) (by kernel_rfl) (fun _ _ _ h => h) (fun _ _ => Iff.rfl) (fun _ _ _ _ _ => trivial) (Closed.of_B (by kernel_rfl)) (Or.inl ⟨by rfl, ?hyu4⟩) hS0 ?restu4
                              case hyu4 => (intro w _; go_simp; with_reducible rfl)
                              go_simp
                              refine wpAnyL_take (T := fun _ => True) (i := 5) (v := ?vvu5) rfl (by kernel_rfl) (by kernel_rfl) (by kernel_rfl) (fun _ _ _ h => h) (fun _ _ => Iff.rfl) (fun _ _ _ _ _ => trivial) (Closed.of_B (by kernel_rfl)) (Or.inl ⟨by rfl, ?hyu5⟩) hS0 ?restu5
                              case hyu5 => (intro w _; go_simp; with_reducible rfl)
                              go_simp
                              refine wpAnyL_take (T := fun W => Cs [(⟨w.heap.size, 2, none⟩, .slice (some ⟨mb, mo, none⟩) named.length mc), (⟨mb, mo + k * 7, none⟩, .int .i64 kx), (⟨mb, mo + k * 7 + 1, none⟩, .bool nx), (⟨mb, mo + k * 7 + 2, none⟩, .slice nax nlx ncx), (⟨mb, mo + k * 7 + 3, none⟩, .bool dx), (⟨mb, mo + k * 7 + 4, none⟩, .slice dax dlx dcx), (⟨mb, mo + k * 7 + 5, none⟩, .string sx), (⟨mb, mo + k * 7 + 6, none⟩, .int .i64 rx)] W) (i := 6) (v := ?vvu6) rfl (by kernel_rfl) (by kernel_rfl) (by kernel_rfl) (fun _ _ _ h => h) (fun _ _ => Iff.rfl) (fun _ _ _ _ h => h) (Closed.of_B (by kernel_rfl)) (Or.inl ⟨by rfl, ?hyu6⟩) hS0 ?restu6
                              case hyu6 => (intro W hW; simp only [Cs, List.forall_mem_cons] at hW; obtain ⟨m0, m1, m2, m3, m4, m5, m6, m7, -⟩ := hW; go_simp; with_reducible rfl)
                              go_simp
                              refine wpAnyL_take (T := fun _ => True) (i := 7) (v := ?vvu7) rfl (by kernel_rfl) (by kernel_rfl) (by kernel_rfl) (fun _ _ _ h => h) (fun _ _ => Iff.rfl) (fun _ _ _ _ _ => trivial) (Closed.of_B (by kernel_rfl)) (Or.inl ⟨by rfl, ?hyu7⟩) hS0 ?restu7
                              case hyu7 => (intro w _; go_simp; with_reducible rfl)
                              go_simp
                              refine wpAnyL_take (T := fun _ => True) (i := 8) (v := ?vvu8) rfl (by kernel_rfl) (by kernel_rfl) (by kernel_rfl) (fun _ _ _ h => h) (fun _ _ => Iff.rfl) (fun _ _ _ _ _ => trivial) (Closed.of_B (by kernel_rfl)) (Or.inl ⟨by rfl, ?hyu8⟩) hS0 ?restu8
                              case hyu8 => (intro w _; go_simp; with_reducible rfl)
                              go_simp
                              refine wpAnyL_take (T := fun W => Cs [(⟨w.heap.size, 2, none⟩, .slice (some ⟨mb, mo, none⟩) named.length mc), (⟨mb, mo + k * 7, none⟩, .int .i64 kx), (⟨mb, mo + k * 7 + 1, none⟩, .bool nx), (⟨mb, mo + k * 7 + 2, none⟩, .slice nax nlx ncx), (⟨mb, mo + k * 7 + 3, none⟩, .bool dx), (⟨mb, mo + k * 7 + 4, none⟩, .slice dax dlx dcx), (⟨mb, mo + k * 7 + 5, none⟩, .string sx), (⟨mb, mo + k * 7 + 6, none⟩, .int .i64 rx)] W) (i := 9) (v := ?vvu9) rfl (by kernel_rfl) (by kernel_rfl) (by kernel_rfl) (fun _ _ _ h => h) (fun _ _ => Iff.rfl) (fun _ _ _ _ h => h) (Closed.of_B (by kernel_rfl)) (Or.inl ⟨by rfl, ?hyu9⟩) hS0 ?restu9
                              case hyu9 => (intro W hW; simp only [Cs, List.forall_mem_cons] at hW; obtain ⟨m0, m1, m2, m3, m4, m5, m6, m7, -⟩ := hW; go_simp; with_reducible rfl)
                              go_simp
                              refine two_appends (i1 := 2) (i2 := 3) (j1 := 10) (j2 := 11) (d1 := 167) (d2 := 168) (f1 := 175) (f2 := 176) (e1 := 9) (e2 := 58) (t1 := 9) (t2 := 58) (z1 := 1) (z2 := 7) (n1 := st.ns.length) (n2 := st.gs.length) (v1 := (.slice na0 st.ns.length nc0)) (v2 := (.slice va' st.gs.length vc')) (xs1 := (st.ns.map Value.string)) (xs2 := (st.gs.flatMap valC)) (C1 := #[.string nm]) (C2 := (valC ⟨kx, nx, nax, nlx, ncx, dx, dax, dlx, dcx, sx, rx⟩).toArray) w5.heap.size rfl rfl rfl rfl (fun _ => rfl) (fun _ => rfl) (fun _ => rfl) (fun _ => rfl) (by decide) (by decide) (by kernel_rfl) (by kernel_rfl) (by kernel_rfl) (by kernel_rfl) (by kernel_rfl) (by kernel_rfl) hB7 ho1 ho2 (own_apart ho1 ho2 (by decide)) (fun _ _ _ _ _ h => h.alloc _) (fun _ _ _ _ _ row hrow hg h => h.grown hg (hapS row hrow)) hS0 ?b1u ?b2u ?a1u ?a2u (fun _ _ _ h1 h2 => own_apart h1 h2 (by decide)) ?Hu
                              case b1u =>
                                rintro F (rfl | ⟨p, rfl⟩) W K hK
                                · exact wp_build1 37 _ rfl (.string nm) (by kernel_rfl) (run_build_str nm W) hK
                                · exact wp_build1 37 _ rfl (.string nm) (by kernel_rfl) (run_build_str nm W) hK
                              case b2u =>
                                rintro F (rfl | ⟨p, rfl⟩ | ⟨p, v, rfl⟩) W K hK
                                · exact wp_build1 36 _ rfl (valA ⟨kx, nx, nax, nlx, ncx, dx, dax, dlx, dcx, sx, rx⟩) (by kernel_rfl) (run_build_val _ W) hK
                                · exact wp_build1 36 _ rfl (valA ⟨kx, nx, nax, nlx, ncx, dx, dax, dlx, dcx, sx, rx⟩) (by kernel_rfl) (run_build_val _ W) hK
                                · exact wp_build1 36 _ rfl (valA ⟨kx, nx, nax, nlx, ncx, dx, dax, dlx, dcx, sx, rx⟩) (by kernel_rfl) (run_build_val _ W) hK
                              case a1u =>
                                intro p F hF W K hB ho hp hK
                                rcases hF with rfl | ⟨q, rfl⟩ <;> exact wp_append_lies _ _ _ _ (by rfl) w5.heap.size 9 iS _ 1 16 Try.underlying37 hiS hs0 hs1 hs2 rfl (by omega) ((.slice na0 st.ns.length nc0)) (st.ns.length) ((st.ns.map Value.string)) (by kernel_rfl) ho ⟨p, 0, none⟩ 1 1 [.string nm] (by kernel_rfl) (by rfl) (World.news_of_block (cs := #[.string nm]) (t := 9) (fr := (0, 0)) hp) (by simp [Value.oneCell']) (by omega) (by rw [maxLen_eq']; omega) (by omega) hB W.heap.size rfl (fun g cap w' h1 h2 h3 _ => hK g cap w' h1 h2 h3)
                              case a2u =>
                                intro p v q F hF W K hB ho hp hK
                                subst hF
                                exact wp_append_lies _ _ _ _ (by rfl) w5.heap.size 58 iV _ 7 96 Try.underlying36 hiV hv0 hv1 hv2 rfl (by omega) ((.slice va' st.gs.length vc')) (st.gs.length) ((st.gs.flatMap valC)) (by kernel_rfl) ho ⟨q, 0, none⟩ 1 1 (valC ⟨kx, nx, nax, nlx, ncx, dx, dax, dlx, dcx, sx, rx⟩) (by kernel_rfl) (by rfl) (World.news_of_block (cs := (valC ⟨kx, nx, nax, nlx, ncx, dx, dax, dlx, dcx, sx, rx⟩).toArray) (t := 58) (fr := (0, 0)) hp) (by simp [Value.oneCell', valC]) (by omega) (by rw [maxLen_eq']; omega) (by omega) hB W.heap.size rfl (fun g cap w' h1 h2 h3 _ => hK g cap w' h1 h2 h3)
                              case Hu => as_aux_lemma =>
                                intro p k1 c1 q k2 c2 W hn1 hn2 hR hk1 hk2 hSW
                                clear hS0
                                have hS0 := hSW
                                refine wpAnyL_take (T := fun _ => True) (i := 12) (v := ?vvu12) rfl (by kernel_rfl) (by kernel_rfl) (by kernel_rfl) (fun _ _ _ h => h) (fun _ _ => Iff.rfl) (fun _ _ _ _ _ => trivial) (Closed.of_B (by kernel_rfl)) (Or.inl ⟨by rfl, ?hyu12⟩) hS0 ?restu12
                                case hyu12 => (intro w _; go_simp; with_reducible rfl)
                                go_simp
                                refine wpAnyL_take (T := fun _ => True) (i := 13) (v := ?vvu13) rfl (by kernel_rfl) (by kernel_rfl) (by kernel_rfl) (fun _ _ _ h => h) (fun _ _ => Iff.rfl) (fun _ _ _ _ _ => trivial) (Closed.of_B (by kernel_rfl)) (Or.inl ⟨by rfl, ?hyu13⟩) hS0 ?restu13
                                case hyu13 => (intro w _; go_simp; with_reducible rfl)
                                go_simp
                                refine wpAnyL_done (by kernel_rfl) ?_ _
                                refine NoPanic.normal ?_
                                clear hS0 hSW hapS
                                have hO4 := (HO3.out.drewN 1).push1 (nm := nm) (x := ⟨kx, nx, nax, nlx, ncx, dx, dax, dlx, dcx, sx, rx⟩) hn1 hn2 hR hk1 hk2
                                have HO4 := Lib.hid hO4
                                clear hO4 hn1 hn2 hR hk1 hk2 ho1 ho2
                                obtain ⟨na2, nc2, rfl⟩ := own_isSlice HO4.out.names
                                obtain ⟨ma2, mc2, rfl⟩ := own_isSlice HO4.out.named
                                obtain ⟨mb', mo', e, q0, q1, q2, q3, q4, q5, q6⟩ := ValsAt.at (HM5.out.below HO4.out.below) hkm
                                simp only [Option.some.injEq, Addr.mk.injEq, and_true] at e
                                obtain ⟨rfl, rfl⟩ := e
                                have hxm := box_cell ((HO4.out.below.block _ hl1).trans hx1) 2
                                have j2 := box_cell HO4.out.box 2
                                have j3 := box_cell HO4.out.box 3
                                simp only [List.getElem?_toArray, List.getElem?_cons_zero, List.getElem?_cons_succ] at hxm j2 j3
                                rw [HGX.out] at q0 q1 q2 q3 q4 q5 q6
                                simp only at q0 q1 q2 q3 q4 q5 q6
                                have hS0 : Cs [(⟨N3, 2, none⟩, .slice na2 st.names.length nc2), (⟨N3, 3, none⟩, .slice ma2 st.named.length mc2), (⟨w.heap.size, 2, none⟩, .slice (some ⟨mb, mo, none⟩) named.length mc), (⟨mb, mo + k * 7, none⟩, .int .i64 kx), (⟨mb, mo + k * 7 + 1, none⟩, .bool nx), (⟨mb, mo + k * 7 + 2, none⟩, .slice nax nlx ncx), (⟨mb, mo + k * 7 + 3, none⟩, .bool dx), (⟨mb, mo + k * 7 + 4, none⟩, .slice dax dlx dcx), (⟨mb, mo + k * 7 + 5, none⟩, .string sx), (⟨mb, mo + k * 7 + 6, none⟩, .int .i64 rx)] W.drew := by
                                  simp only [Cs, List.forall_mem_cons]
                                  exact ⟨j2, j3, hxm, q0, q1, q2, q3, q4, q5, q6, fun _ h => by cases h⟩
                                have hnN : (Value.slice na2 st.names.length nc2).ownBlock ≠ some N3 := own_box HO4.out.names HO4.out.box (by decide)
                                have hmN : (Value.slice ma2 st.named.length mc2).ownBlock ≠ some N3 := own_box HO4.out.named HO4.out.box (by decide)
                                have hapS : ∀ row, row = (Value.slice na2 st.names.length nc2).ownBlock ∨ row = (Value.slice ma2 st.named.length mc2).ownBlock → ∀ x ∈ ([(⟨N3, 2, none⟩, .slice na2 st.names.length nc2), (⟨N3, 3, none⟩, .slice ma2 st.named.length mc2), (⟨w.heap.size, 2, none⟩, .slice (some ⟨mb, mo, none⟩) named.length mc), (⟨mb, mo + k * 7, none⟩, .int .i64 kx), (⟨mb, mo + k * 7 + 1, none⟩, .bool nx), (⟨mb, mo + k * 7 + 2, none⟩, .slice nax nlx ncx), (⟨mb, mo + k * 7 + 3, none⟩, .bool dx), (⟨mb, mo + k * 7 + 4, none⟩, .slice dax dlx dcx), (⟨mb, mo + k * 7 + 5, none⟩, .string sx), (⟨mb, mo + k * 7 + 6, none⟩, .int .i64 rx)] : List (Addr × Value)), some x.1.block ≠ row := by
                                  intro row hrow
                                  have hl : ∀ b, b < w5.heap.size → some b ≠ row := fun b hb e => by
                                    have : w5.heap.size ≤ b := by rcases hrow with rfl | rfl; exact (HO4.out.names.lt b e.symm).1; exact (HO4.out.named.lt b e.symm).1
                                    omega
                                  have hN : some N3 ≠ row := by rcases hrow with rfl | rfl; exact hnN.symm; exact hmN.symm
                                  simp only [List.forall_mem_cons]
                                  exact ⟨hN, hN, hl _ hl1, hl _ hmb, hl _ hmb, hl _ hmb, hl _ hmb, hl _ hmb, hl _ hmb, hl _ hmb, fun _ h => by cases h⟩
                                have hB8 := HO4.out.below.size
                                have ho1 : W.drew.ownsRow w5.heap.size 9 1 (.slice na2 st.names.length nc2) st.names.length (st.names.map Value.string) := own_drew HO4.out.names
                                have ho2 : W.drew.ownsRow w5.heap.size 58 7 (.slice ma2 st.named.length mc2) st.named.length (st.named.flatMap valC) := own_drew HO4.out.named
                                go_wp2
                                clear hxm q0 q1 q2 q3 q4 q5 q6 j2 j3
                                refine wp_region_noPanic ?_
                                refine wp_region_L (S := GS 15 [(⟨N3, 2, none⟩, .slice na2 st.names.length nc2), (⟨N3, 3, none⟩, .slice ma2 st.named.length mc2), (⟨w.heap.size, 2, none⟩, .slice (some ⟨mb, mo, none⟩) named.length mc), (⟨mb, mo + k * 7, none⟩, .int .i64 kx), (⟨mb, mo + k * 7 + 1, none⟩, .bool nx), (⟨mb, mo + k * 7 + 2, none⟩, .slice nax nlx ncx), (⟨mb, mo + k * 7 + 3, none⟩, .bool dx), (⟨mb, mo + k * 7 + 4, none⟩, .slice dax dlx dcx), (⟨mb, mo + k * 7 + 5, none⟩, .string sx), (⟨mb, mo + k * 7 + 6, none⟩, .int .i64 rx)]) (by kernel_rfl) ?_
                                refine wpAnyL_take (T := fun _ => True) (i := 0) (v := ?vvv0) rfl (by kernel_rfl) (by kernel_rfl) (by kernel_rfl) (fun _ _ _ h => h) (fun L W => GS.put (by decide)) (fun _ _ _ _ _ => trivial) (Closed.of_B (by kernel_rfl)) (Or.inl ⟨by rfl, ?hyv0⟩) (GS.mk fun _ => hS0) ?restv0
                                case hyv0 => (intro w _; go_simp; with_reducible rfl)
                                go_simp
                                refine wpAnyL_take (T := fun W => Cs [(⟨N3, 2, none⟩, .slice na2 st.names.length nc2), (⟨N3, 3, none⟩, .slice ma2 st.named.length mc2), (⟨w.heap.size, 2, none⟩, .slice (some ⟨mb, mo, none⟩) named.length mc), (⟨mb, mo + k * 7, none⟩, .int .i64 kx), (⟨mb, mo + k * 7 + 1, none⟩, .bool nx), (⟨mb, mo + k * 7 + 2, none⟩, .slice nax nlx ncx), (⟨mb, mo + k * 7 + 3, none⟩, .bool dx), (⟨mb, mo + k * 7 + 4, none⟩, .slice dax dlx dcx), (⟨mb, mo + k * 7 + 5, none⟩, .string sx), (⟨mb, mo + k * 7 + 6, none⟩, .int .i64 rx)] W) (i := 1) (v := ?vvv1) rfl (by kernel_rfl) (by kernel_rfl) (by kernel_rfl) (fun _ _ _ h => h) (fun L W => GS.put (by decide)) (fun L W hcl hl hS => hS.el (hcl.notYet (by kernel_rfl) (getD_false hl))) (Closed.of_B (by kernel_rfl)) (Or.inl ⟨by rfl, ?hyv1⟩) (GS.mk fun _ => hS0) ?restv1
                                case hyv1 => (intro W hW; simp only [Cs, List.forall_mem_cons] at hW; obtain ⟨m0, m1, m2, m3, m4, m5, m6, m7, m8, m9, -⟩ := hW; go_simp; with_reducible rfl)
                                go_simp
                                refine wpAnyL_take (T := fun _ => True) (i := 2) (v := ?vvv2) rfl (by kernel_rfl) (by kernel_rfl) (by kernel_rfl) (fun _ _ _ h => h) (fun L W => GS.put (by decide)) (fun _ _ _ _ _ => trivial) (Closed.of_B (by kernel_rfl)) (Or.inl ⟨by rfl, ?hyv2⟩) (GS.mk fun _ => hS0) ?restv2
                                case hyv2 => (intro w _; go_simp; with_reducible rfl)
                                go_simp
                                refine wpAnyL_take (T := fun _ => True) (i := 5) (v := ?vvv5) rfl (by kernel_rfl) (by kernel_rfl) (by kernel_rfl) (fun _ _ _ h => h) (fun L W => GS.put (by decide)) (fun _ _ _ _ _ => trivial) (Closed.of_B (by kernel_rfl)) (Or.inl ⟨by rfl, ?hyv5⟩) (GS.mk fun _ => hS0) ?restv5
                                case hyv5 => (intro w _; go_simp; with_reducible rfl)
                                go_simp
                                refine wpAnyL_take (T := fun W => Cs [(⟨N3, 2, none⟩, .slice na2 st.names.length nc2), (⟨N3, 3, none⟩, .slice ma2 st.named.length mc2), (⟨w.heap.size, 2, none⟩, .slice (some ⟨mb, mo, none⟩) named.length mc), (⟨mb, mo + k * 7, none⟩, .int .i64 kx), (⟨mb, mo + k * 7 + 1, none⟩, .bool nx), (⟨mb, mo + k * 7 + 2, none⟩, .slice nax nlx ncx), (⟨mb, mo + k * 7 + 3, none⟩, .bool dx), (⟨mb, mo + k * 7 + 4, none⟩, .slice dax dlx dcx), (⟨mb, mo + k * 7 + 5, none⟩, .string sx), (⟨mb, mo + k * 7 + 6, none⟩, .int .i64 rx)] W) (i := 6) (v := ?vvv6) rfl (by kernel_rfl) (by kernel_rfl) (by kernel_rfl) (fun _ _ _ h => h) (fun L W => GS.put (by decide)) (fun L W hcl hl hS => hS.el (hcl.notYet (by kernel_rfl) (getD_false hl))) (Closed.of_B (by kernel_rfl)) (Or.inl ⟨by rfl, ?hyv6⟩) (GS.mk fun _ => hS0) ?restv6
                                case hyv6 => (intro W hW; simp only [Cs, List.forall_mem_cons] at hW; obtain ⟨m0, m1, m2, m3, m4, m5, m6, m7, m8, m9, -⟩ := hW; go_simp; with_reducible rfl)
                                go_simp
                                refine wpAnyL_take (T := fun _ => True) (i := 7) (v := ?vvv7) rfl (by kernel_rfl) (by kernel_rfl) (by kernel_rfl) (fun _ _ _ h => h) (fun L W => GS.put (by decide)) (fun _ _ _ _ _ => trivial) (Closed.of_B (by kernel_rfl)) (Or.inl ⟨by rfl, ?hyv7⟩) (GS.mk fun _ => hS0) ?restv7
                                case hyv7 => (intro w _; go_simp; with_reducible rfl)
                                go_simp
                                refine wpAnyL_take (T := fun W => Cs [(⟨N3, 2, none⟩, .slice na2 st.names.length nc2), (⟨N3, 3, none⟩, .slice ma2 st.named.length mc2), (⟨w.heap.size, 2, none⟩, .slice (some ⟨mb, mo, none⟩) named.length mc), (⟨mb, mo + k * 7, none⟩, .int .i64 kx), (⟨mb, mo + k * 7 + 1, none⟩, .bool nx), (⟨mb, mo + k * 7 + 2, none⟩, .slice nax nlx ncx), (⟨mb, mo + k * 7 + 3, none⟩, .bool dx), (⟨mb, mo + k * 7 + 4, none⟩, .slice dax dlx dcx), (⟨mb, mo + k * 7 + 5, none⟩, .string sx), (⟨mb, mo + k * 7 + 6, none⟩, .int .i64 rx)] W) (i := 8) (v := ?vvv8) rfl (by kernel_rfl) (by kernel_rfl) (by kernel_rfl) (fun _ _ _ h => h) (fun L W => GS.put (by decide)) (fun L W hcl hl hS => hS.el (hcl.notYet (i := 13) (by kernel_rfl) (hcl.notYet (i := 12) (by kernel_rfl) (hcl.notYet (i := 11) (by kernel_rfl) (hcl.notYet (i := 10) (by kernel_rfl) (hcl.notYet (by kernel_rfl) (getD_false hl))))))) (Closed.of_B (by kernel_rfl)) (Or.inl ⟨by rfl, ?hyv8⟩) (GS.mk fun _ => hS0) ?restv8
                                case hyv8 => (intro W hW; simp only [Cs, List.forall_mem_cons] at hW; obtain ⟨m0, m1, m2, m3, m4, m5, m6, m7, m8, m9, -⟩ := hW; go_simp; with_reducible rfl)
                                go_simp
                                refine wpAnyL_take (T := fun _ => True) (i := 9) (v := ?vvv9) rfl (by kernel_rfl) (by kernel_rfl) (by kernel_rfl) (fun _ _ _ h => h) (fun L W => GS.put (by decide)) (fun _ _ _ _ _ => trivial) (Closed.of_B (by kernel_rfl)) (Or.inl ⟨by rfl, ?hyv9⟩) (GS.mk fun _ => hS0) ?restv9
                                case hyv9 => (intro w _; go_simp; with_reducible rfl)
                                go_simp
                                refine wpAnyL_take (T := fun _ => True) (i := 10) (v := ?vvv10) rfl (by kernel_rfl) (by kernel_rfl) (by kernel_rfl) (fun _ _ _ h => h) (fun L W => GS.put (by decide)) (fun _ _ _ _ _ => trivial) (Closed.of_B (by kernel_rfl)) (Or.inl ⟨by rfl, ?hyv10⟩) (GS.mk fun _ => hS0) ?restv10
                                case hyv10 => (intro w _; go_simp; with_reducible rfl)
                                go_simp
                                refine wpAnyL_take (T := fun W => Cs [(⟨N3, 2, none⟩, .slice na2 st.names.length nc2), (⟨N3, 3, none⟩, .slice ma2 st.named.length mc2), (⟨w.heap.size, 2, none⟩, .slice (some ⟨mb, mo, none⟩) named.length mc), (⟨mb, mo + k * 7, none⟩, .int .i64 kx), (⟨mb, mo + k * 7 + 1, none⟩, .bool nx), (⟨mb, mo + k * 7 + 2, none⟩, .slice nax nlx ncx), (⟨mb, mo + k * 7 + 3, none⟩, .bool dx), (⟨mb, mo + k * 7 + 4, none⟩, .slice dax dlx dcx), (⟨mb, mo + k * 7 + 5, none⟩, .string sx), (⟨mb, mo + k * 7 + 6, none⟩, .int .i64 rx)] W) (i := 11) (v := ?vvv11) rfl (by kernel_rfl) (by kernel_rfl) (by kernel_rfl) (fun _ _ _ h => h) (fun L W => GS.put (by decide)) (fun L W hcl hl hS => hS.el (hcl.notYet (i := 13) (by kernel_rfl) (hcl.notYet (i := 12) (by kernel_rfl) (hcl.notYet (by kernel_rfl) (getD_false hl))))) (Closed.of_B (by kernel_rfl)) (Or.inl ⟨by rfl, ?hyv11⟩) (GS.mk fun _ => hS0) ?restv11
                                case hyv11 => (intro W hW; simp only [Cs, List.forall_mem_cons] at hW; obtain ⟨m0, m1, m2, m3, m4, m5, m6, m7, m8, m9, -⟩ := hW; go_simp; with_reducible rfl)
                                go_simp
                                refine two_appends_m (m := 14) (dm := 193) (vm := (.pointer (some ⟨N3, 2, none⟩))) (i1 := 3) (i2 := 4) (j1 := 12) (j2 := 13) (d1 := 182) (d2 := 183) (f1 := 191) (f2 := 192) (e1 := 9) (e2 := 58) (t1 := 9) (t2 := 58) (z1 := 1) (z2 := 7) (n1 := st.names.length) (n2 := st.named.length) (v1 := (.slice na2 st.names.length nc2)) (v2 := (.slice ma2 st.named.length mc2)) (xs1 := (st.names.map Value.string)) (xs2 := (st.named.flatMap valC)) (C1 := #[.string nm]) (C2 := (valC ⟨kx, nx, nax, nlx, ncx, dx, dax, dlx, dcx, sx, rx⟩).toArray) w5.heap.size rfl rfl rfl rfl (fun _ => rfl) (fun _ => rfl) (fun _ => rfl) (fun _ => rfl) (by decide) (by decide) (by kernel_rfl) (by kernel_rfl) (by kernel_rfl) (by kernel_rfl) (by kernel_rfl) (by kernel_rfl) hB8 ho1 ho2 (own_apart ho1 ho2 (by decide)) (fun i hi L W o h => GS.mk fun hg => (h.el (by rw [getD_put_ne L (by rcases hi with rfl | rfl <;> decide)] at hg; exact hg)).alloc _) (fun i hi L W W2 row hrow hg h => GS.mk fun hgt => (h.el (by rw [getD_put_ne L (by rcases hi with rfl | rfl <;> decide)] at hgt; exact hgt)).grown hg (hapS row hrow)) (fun L W h => GS.mk fun hg => h.el (by rw [getD_put_ne L (show 14 ≠ 15 by decide)] at hg; exact hg)) (GS.mk fun _ => hS0) ?b1v ?b2v ?a1v ?a2v ?mAv ?mBv (fun _ _ _ h1 h2 => own_apart h1 h2 (by decide)) ?Hv
                                case b1v =>
                                  rintro F (rfl | ⟨p, rfl⟩) W K hK
                                  · exact wp_build1 37 _ rfl (.string nm) (by kernel_rfl) (run_build_str nm W) hK
                                  · exact wp_build1 37 _ rfl (.string nm) (by kernel_rfl) (run_build_str nm W) hK
                                case b2v =>
                                  rintro F (rfl | ⟨p, rfl⟩ | ⟨p, v, rfl⟩) W K hK
                                  · exact wp_build1 36 _ rfl (valA ⟨kx, nx, nax, nlx, ncx, dx, dax, dlx, dcx, sx, rx⟩) (by kernel_rfl) (run_build_val _ W) hK
                                  · exact wp_build1 36 _ rfl (valA ⟨kx, nx, nax, nlx, ncx, dx, dax, dlx, dcx, sx, rx⟩) (by kernel_rfl) (run_build_val _ W) hK
                                  · exact wp_build1 36 _ rfl (valA ⟨kx, nx, nax, nlx, ncx, dx, dax, dlx, dcx, sx, rx⟩) (by kernel_rfl) (run_build_val _ W) hK
                                case a1v =>
                                  intro p F hF W K hB ho hp hK
                                  rcases hF with rfl | ⟨q, rfl⟩ <;> exact wp_append_lies _ _ _ _ (by rfl) w5.heap.size 9 iS _ 1 16 Try.underlying37 hiS hs0 hs1 hs2 rfl (by omega) ((.slice na2 st.names.length nc2)) (st.names.length) ((st.names.map Value.string)) (by kernel_rfl) ho ⟨p, 0, none⟩ 1 1 [.string nm] (by kernel_rfl) (by rfl) (World.news_of_block (cs := #[.string nm]) (t := 9) (fr := (0, 0)) hp) (by simp [Value.oneCell']) (by omega) (by rw [maxLen_eq']; omega) (by omega) hB W.heap.size rfl (fun g cap w' h1 h2 h3 _ => hK g cap w' h1 h2 h3)
                                case a2v =>
                                  intro p v q F hF W K hB ho hp hK
                                  subst hF
                                  exact wp_append_lies _ _ _ _ (by rfl) w5.heap.size 58 iV _ 7 96 Try.underlying36 hiV hv0 hv1 hv2 rfl (by omega) ((.slice ma2 st.named.length mc2)) (st.named.length) ((st.named.flatMap valC)) (by kernel_rfl) ho ⟨q, 0, none⟩ 1 1 (valC ⟨kx, nx, nax, nlx, ncx, dx, dax, dlx, dcx, sx, rx⟩) (by kernel_rfl) (by rfl) (World.news_of_block (cs := (valC ⟨kx, nx, nax, nlx, ncx, dx, dax, dlx, dcx, sx, rx⟩).toArray) (t := 58) (fr := (0, 0)) hp) (by simp [Value.oneCell', valC]) (by omega) (by rw [maxLen_eq']; omega) (by omega) hB W.heap.size rfl (fun g cap w' h1 h2 h3 _ => hK g cap w' h1 h2 h3)
                                case mAv =>
                                  intro p v n W hSW hcont
                                  exact wpAnyL_take (T := fun _ => True) (i := 14) (v := (.pointer (some ⟨N3, 2, none⟩))) rfl (by kernel_rfl) (by kernel_rfl) (by kernel_rfl) (fun _ _ _ h => h) (fun L W => GS.put (by decide)) (fun _ _ _ _ _ => trivial) (Closed.of_B (by kernel_rfl)) (Or.inl ⟨by rfl, by intro w _; go_simp⟩) hSW hcont
                                case mBv =>
                                  intro p v q n W hSW hcont
                                  exact wpAnyL_take (T := fun _ => True) (i := 14) (v := (.pointer (some ⟨N3, 2, none⟩))) rfl (by kernel_rfl) (by kernel_rfl) (by kernel_rfl) (fun _ _ _ h => h) (fun L W => GS.put (by decide)) (fun _ _ _ _ _ => trivial) (Closed.of_B (by kernel_rfl)) (Or.inl ⟨by rfl, by intro w _; go_simp⟩) hSW hcont
                                case Hv => as_aux_lemma =>
                                  intro p k3 c3 q k4 c4 W2 hn1 hn2 hR hk1 hk2 hSW
                                  clear hS0 hapS hSW
                                  have hbx := (hR.far N3 (by simpa using box_lt HO4.out.box) hnN hmN).trans HO4.out.box
                                  have c2b := box_cell hbx 2
                                  have c3b := box_cell hbx 3
                                  simp only [List.getElem?_toArray, List.getElem?_cons_zero, List.getElem?_cons_succ] at c2b c3b
                                  have d2b := box_frozen hbx 2
                                  have d3b := box_frozen hbx 3
                                  have hO5 := (HO4.out.drewN 1).push2 (nm := nm) (x := ⟨kx, nx, nax, nlx, ncx, dx, dax, dlx, dcx, sx, rx⟩) hn1 hn2 hR hk1 hk2
                                  have HO5 := Lib.hid hO5
                                  clear hO5 hn1 hn2 hR hk1 hk2 ho1 ho2 hbx
                                  unfold slG
                                  refine wpAnyL_ready (rs := [15]) (by kernel_rfl) (by simp) ?_
                                  refine AllL.cons rfl (by rfl) (fun K hK => ?_) AllL.nil
                                  go_simp
                                  refine hK _ _ ⟨GS.mk fun h => Bool.noConfusion ((show _ = true by kernel_rfl).symm.trans h), ?_⟩
                                  clear hK K
                                  refine wpAnyL_ready (rs := [16]) (by kernel_rfl) (by simp) ?_
                                  refine AllL.cons rfl (by rfl) (fun K hK => ?_) AllL.nil
                                  go_simp
                                  refine hK _ _ ⟨GS.mk fun h => Bool.noConfusion ((show _ = true by kernel_rfl).symm.trans h), ?_⟩
                                  clear hK K
                                  refine wpAnyL_ready (rs := [17]) (by kernel_rfl) (by simp) ?_
                                  refine AllL.cons rfl (by rfl) (fun K hK => ?_) AllL.nil
                                  go_simp
                                  refine hK _ _ ⟨GS.mk fun h => Bool.noConfusion ((show _ = true by kernel_rfl).symm.trans h), ?_⟩
                                  clear hK K
                                  refine wpAnyL_done (by kernel_rfl) ?_ _
                                  refine NoPanic.normal ?_
                                  go_wp2
                                  go_roundg (names.length - (k + 1))
                                  case measure => omega
                                  case rel => exact ⟨k + 1, _, _, _, _, _, by omega, by omega, by go_num, rfl, rfl, HO5.out, HR, by simp [HLL.out], by simp; omega, by simp; omega, by simp; omega⟩
                  · have hk' : k = names.length := by omega
                    have hdn : (names.zip named).drop k = [] := List.drop_of_length_le (by rw [HZL.out]; omega)
                    have hRR := HRR.out
                    rw [hdn] at hRR
                    have HR0 := Lib.hid (show RR = outC st (l.drop PL) [] (outGo unbV st.ns st.gs 0 ds ps) by
                      rw [hRR]; unfold refGo refCont outC; rw [HPL.out]; simp only; cases outGo unbV st.ns st.gs 0 ds ps <;> rfl)
                    have hP0 := HO3.out.toP
                    have hgs0 : st.ns.length = st.gs.length := HLL.out
                    have HLS := Lib.hid hgs0
                    have HP0 := Lib.hid hP0
                    have HB13 := Lib.hid (show st.gs.length ≤ 1012 by omega)
                    clear hdn hRR hP0 hgs0 HRR hk'
                    obtain ⟨wo, hwo⟩ : ∃ wo : World, wo = wr := ⟨_, rfl⟩
                    subst hwo
                    go_wp2
                    go_loopg [25, 198] ps.length (fun q s25 s198 wx => ∃ k : Nat, ∃ vv acc, k ≤ ps.length ∧ ps.length - k ≤ q ∧ s198 = .int .i64 k ∧ s25 = .int .i64 (sumN (ps.take k) : Nat) ∧ acc.length = k ∧
                      PAt w5 wx N3 u15 u16 vv rv nv mv st (l.drop PL) acc ∧ Hid (RR = outC st (l.drop PL) acc (outGo unbV st.ns st.gs (sumN (ps.take k)) ds (ps.drop k))))
                    case atStart => exact ⟨0, _, [], Nat.zero_le _, by omega, rfl, rfl, rfl, HP0.out, HR0⟩
                    case round =>
                      clear HR0 HP0 HO3
                      obtain ⟨k, vv, acc, hk, hq, rfl, rfl, hal, hP, HRR⟩ := hrel
                      have HAL := Lib.hid hal
                      have HP := Lib.hid hP
                      clear hal hP
                      by_cases hlt : k < ps.length
                      · obtain ⟨a', c', he, _, _, hc⟩ := HV5.out.below HP.out.below
                        simp only [Value.slice.injEq, true_and] at he
                        obtain ⟨rfl, rfl⟩ := he
                        obtain ⟨b, off, da', dc', rfl, z0, z1, z2⟩ := hc k hlt
                        clear hc
                        have HSS := Lib.hid (sumN_succ ps k hlt)
                        have hsl : sumN (ps.take (k + 1)) ≤ k + 1 := sumN_le HN1.out (k + 1) hlt
                        rw [HSS.out] at hsl
                        have hsd : sumN (ps.take k) + ps[k].n ≤ ds.length := by
                          have h1 := sumN_split ps (k + 1)
                          rw [HSS.out] at h1
                          rw [HDS.out]
                          omega
                        have hRR := HRR.out
                        rw [List.drop_eq_getElem_cons hlt] at hRR
                        have HR0 := Lib.hid hRR
                        have hsk := HSZ.out ps[k] (List.getElem_mem hlt)
                        have HOW := Lib.hid (show own ps[k] = (ps[k].k == 0 || ps[k].k == 2) from rfl)
                        have HPP0 := Lib.hid (show ps[k] = ⟨ps[k].k, ps[k].s, ps[k].n⟩ from rfl)
                        clear hRR HRR
                        have hbA := ext_alloc wr (.cells #[.int .i64 ps[k].k, .string ps[k].s, .slice da' ps[k].n dc'] 51)
                        have hb27 := heap_new wr (.cells #[.int .i64 ps[k].k, .string ps[k].s, .slice da' ps[k].n dc'] 51)
                        have hbB := ext_alloc (wr.alloc (.cells #[.int .i64 ps[k].k, .string ps[k].s, .slice da' ps[k].n dc'] 51)) (valO unbV)
                        have hb28 := heap_new (wr.alloc (.cells #[.int .i64 ps[k].k, .string ps[k].s, .slice da' ps[k].n dc'] 51)) (valO unbV)
                        rw [show (wr.alloc (.cells #[.int .i64 ps[k].k, .string ps[k].s, .slice da' ps[k].n dc'] 51)).heap.size = wr.heap.size + 1 by simp] at hb28
                        replace hb27 := (hbB.block _ (box_lt hb27)).trans hb27
                        have hbS := ext_trans hbA hbB
                        clear hbA hbB
                        unfold valO unbV at hbS hb27 hb28
                        simp only at hbS hb27 hb28
                        go_upto_region 47 with fail
                        clear z0 z1 z2
                        generalize ((wr.alloc (.cells #[.int .i64 ps[k].k, .string ps[k].s, .slice da' ps[k].n dc'] 51)).alloc (.cells #[.int .i64 9, .bool false, .slice none 0 0, .bool false, .slice none 0 0, .string ⟨#[]⟩, .int .i64 0] 58)) = wS at *
                        have c0p := box_cell hb27 0
                        have c1p := box_cell hb27 1
                        have c2p := box_cell hb27 2
                        simp only [List.getElem?_toArray, List.getElem?_cons_zero, List.getElem?_cons_succ] at c0p c1p c2p
                        have hP27 : wr.heap.size ≤ wr.heap.size := Nat.le_refl _
                        have hP28 : wr.heap.size ≤ wr.heap.size + 1 := by omega
                        have hPne : ¬ (wr.heap.size = wr.heap.size + 1) := by omega
                        generalize ps[k].k = pk at *
                        generalize ps[k].n = pn at *
                        generalize ps[k].s = pnm at *
                        rw [HPP0.out] at HR0 HOW
                        clear HPP0
                        obtain ⟨a15, c15, h15⟩ := own_isSlice HP.out.ns
                        obtain ⟨a16, c16, h16⟩ := own_isSlice HP.out.gs
                        subst h15
                        subst h16
                        go_cut [210] (fun s210 wx => s210 = .bool (pk == 0 || pk == 2) ∧ wS = wx)
                        case first => as_aux_lemma =>
                          cases b0 : (pk == 0) with
                          | true =>
                            go_wp2
                            go_meet
                            exact ⟨by rw [b0]; rfl, rfl⟩
                          | false =>
                            cases b2 : (pk == 2) with
                            | true =>
                              go_wp2
                              go_meet
                              exact ⟨by rw [b0, b2]; rfl, rfl⟩
                            | false =>
                              go_wp2
                              go_meet
                              exact ⟨by rw [b0, b2]; rfl, rfl⟩
                        case rest =>
                          obtain ⟨rfl, rfl⟩ := hcut
                          cases hown : (pk == 0 || pk == 2) with
                          | true =>
                            have HOWt := Lib.hid (HOW.out.trans hown)
                            have hix := IndexS_any _ st.ns pnm wS (names_row (HP.out.under hbS).ns)
                            have HIX := Lib.hid hix
                            clear hix hown HOW
                            go_wp2_with fail
                            refine HIX.out.mono ?_
                            rintro e wB ⟨rfl, hbI⟩
                            replace hb27 := (hbI.block _ (box_lt hb27)).trans hb27
                            replace hb28 := (hbI.block _ (box_lt hb28)).trans hb28
                            replace hbS := ext_trans hbS hbI
                            clear HIX hbI c0p c1p c2p
                            have c1p := box_cell hb27 1
                            have c2p := box_cell hb27 2
                            simp only [List.getElem?_toArray, List.getElem?_cons_zero, List.getElem?_cons_succ] at c1p c2p
                            cases hfi : st.ns.findIdx? (sameN pnm) with
                            | some j =>
                              have HR := Lib.hid (HR0.out.trans (out_some HOWt.out hfi))
                              have hjl : j < st.gs.length := by
                                rw [← HLS.out]
                                exact (List.findIdx?_eq_some_iff_getElem.1 hfi).1
                              have HGJ := Lib.hid (isUV_at hjl)
                              clear HR0 hfi
                              unfold optI
                              obtain ⟨b, off, e, y0, y1, y2, y3, y4, y5, y6⟩ := ValsAt.at (w := wB) (l := st.gs) (RowS.of_own (HP.out.under hbS).gs) hjl
                              subst e
                              rw [HGJ.out] at HR
                              generalize st.gs[j] = x at *
                              obtain ⟨kx, nx, nax, nlx, ncx, dx, dax, dlx, dcx, sx, rx⟩ := x
                              simp only at y0 y1 y2 y3 y4 y5 y6
                              have x0 := box_cell hb28 0
                              have x1 := box_cell hb28 1
                              have x2 := box_cell hb28 2
                              have x3 := box_cell hb28 3
                              have x4 := box_cell hb28 4
                              have x5 := box_cell hb28 5
                              have x6 := box_cell hb28 6
                              simp only [List.getElem?_toArray, List.getElem?_cons_zero, List.getElem?_cons_succ] at x0 x1 x2 x3 x4 x5 x6
                              have f0 := box_frozen hb28 0
                              have f1 := box_frozen hb28 1
                              have f2 := box_frozen hb28 2
                              have f3 := box_frozen hb28 3
                              have f4 := box_frozen hb28 4
                              have f5 := box_frozen hb28 5
                              have f6 := box_frozen hb28 6
                              have hs28 := box7_set unbV ⟨kx, nx, nax, nlx, ncx, dx, dax, dlx, dcx, sx, rx⟩ hb28
                              have hs27 := other7 (N := wr.heap.size + 1) ⟨kx, nx, nax, nlx, ncx, dx, dax, dlx, dcx, sx, rx⟩ hb27 hPne
                              have hsS := below7 hbS hP28 ⟨kx, nx, nax, nlx, ncx, dx, dax, dlx, dcx, sx, rx⟩
                              unfold valO at hs28
                              simp only at hs28 hs27 hsS
                              clear c1p
                              go_upto_region 54 with fail
                              clear hb27 hb28 hbS x0 x1 x2 x3 x4 x5 x6 f0 f1 f2 f3 f4 f5 f6 y0 y1 y2 y3 y4 y5 y6 c2p
                              have hb27 := hs27
                              have hb28 := hs28
                              have hbS := hsS
                              clear hs27 hs28 hsS
                              obtain ⟨wS, hwS⟩ : ∃ wS : World, wS = (((((((wB.setCell ⟨wr.heap.size + 1, 0, none⟩ (.int .i64 kx)).setCell ⟨wr.heap.size + 1, 1, none⟩ (.bool nx)).setCell ⟨wr.heap.size + 1, 2, none⟩ (.slice nax nlx ncx)).setCell ⟨wr.heap.size + 1, 3, none⟩ (.bool dx)).setCell ⟨wr.heap.size + 1, 4, none⟩ (.slice dax dlx dcx)).setCell ⟨wr.heap.size + 1, 5, none⟩ (.string sx)).setCell ⟨wr.heap.size + 1, 6, none⟩ (.int .i64 rx)) := ⟨_, rfl⟩
                              rw [← hwS] at hb27 hb28 hbS ⊢
                              clear hwS
                              have c2 := box_cell hb27 2
                              simp only [List.getElem?_toArray, List.getElem?_cons_zero, List.getElem?_cons_succ] at c2
                              have hP9 := HP.out.under hbS
                              obtain ⟨va9, vc9, hvv9⟩ := own_isSlice hP9.vals
                              subst hvv9
                              have c0 := box_cell hP9.box 0
                              simp only [List.getElem?_toArray, List.getElem?_cons_zero] at c0
                              have x0 := box_cell hb28 0
                              have x1 := box_cell hb28 1
                              have x2 := box_cell hb28 2
                              have x3 := box_cell hb28 3
                              have x4 := box_cell hb28 4
                              have x5 := box_cell hb28 5
                              have x6 := box_cell hb28 6
                              simp only [List.getElem?_toArray, List.getElem?_cons_zero, List.getElem?_cons_succ] at x0 x1 x2 x3 x4 x5 x6
                              have HP9 := Lib.hid hP9
                              have HOWN := Lib.hid hP9.vals
                              clear hP9 hb27 hb28
                              go_wp2_with (at_builtin; refine wpList_append_lies _ rfl _ _ 36 rfl w5.heap.size 58 iV (Value.agg #[.int .i64 0, .bool false, .slice none 0 0, .bool false, .slice none 0 0, .string ⟨#[]⟩, .int .i64 0]) 7 96 Try.underlying36 hiV hv0 hv1 hv2 rfl (by decide) _ _ _ rfl (HOWN.out.alloc _) ⟨wS.heap.size, 0, none⟩ 1 1 (valC ⟨kx, nx, nax, nlx, ncx, dx, dax, dlx, dcx, sx, rx⟩) rfl ?cas ?cbs ?ccs (by decide) ?cds ?ces ?cfs (wS.heap.size + 1) ?cgs ?_)
                              case cas => rfl
                              case cbs => first | exact (World.news_of_block (cs := (valC ⟨kx, nx, nax, nlx, ncx, dx, dax, dlx, dcx, sx, rx⟩).toArray) (t := 58) (fr := (0, 0)) (heap_alloc_new wS _)) | exact (fun _ _ h => h) | exact (fun j u h => (by simpa [valC] using h))
                              case ccs => simp [Value.oneCell', valC]
                              case cds => rw [maxLen_eq', HAL.out]; omega
                              case ces => rw [HAL.out]; omega
                              case cfs => have := HP9.out.below.size; simp; omega
                              case cgs => simp
                              intro g9 cap9 w2b hown2 hgr2 hat2 _
                              have hgrS : wS.grownBy w2b (Value.slice va9 acc.length vc9).ownBlock := grown_new (grown_of_below (ext_alloc wS (valO ⟨kx, nx, nax, nlx, ncx, dx, dax, dlx, dcx, sx, rx⟩)) _) hgr2 (fun k hk => .inr hk)
                              have hPp := HP9.out.push hown2 rfl hgrS (fun q hq => by
                                simp only [Value.ownBlock, Option.some.injEq] at hq
                                subst hq
                                rcases hat2 with h1 | h1
                                · exact .inl h1
                                · exact .inr (by omega))
                              have hbx := (hgrS.block N3 (box_lt HP9.out.box) (Ne.symm (own_box HP9.out.vals HP9.out.box (by decide)))).trans HP9.out.box
                              have c0b := box_cell hbx 0
                              simp only [List.getElem?_toArray, List.getElem?_cons_zero] at c0b
                              have d0b := box_frozen hbx 0
                              have HPP := Lib.hid hPp
                              clear hPp hbx hown2 hgr2 hgrS HOWN HP9 c0 c2 x0 x1 x2 x3 x4 x5 x6
                              go_wp2
                              go_roundg (ps.length - (k + 1))
                              case measure => omega
                              case rel => exact ⟨k + 1, _, _, by omega, by omega, by go_num, by rw [HSS.out]; go_num, by simp [HAL.out], HPP.out, by unfold Hid; rw [HSS.out]; exact HR.out⟩
                            | none =>
                              unfold optI
                              by_cases hpn : 0 < pn
                              · focus
                                  have ipn : ((pn : Int) > 0) := by omega
                                  have HR := Lib.hid (HR0.out.trans (out_default HOWt.out hfi hpn))
                                  have hjl : sumN (ps.take k) < ds.length := by omega
                                  have HGJ := Lib.hid (isUV_at hjl)
                                  clear HR0 hfi
                                  obtain ⟨b, off, e, y0, y1, y2, y3, y4, y5, y6⟩ := ValsAt.at (HD5.out.below (ext_trans HP.out.below hbS)) hjl
                                  subst e
                                  rw [HGJ.out] at HR
                                  generalize hgy : ds[sumN (ps.take k)] = x at *
                                  clear hgy
                                  obtain ⟨kx, nx, nax, nlx, ncx, dx, dax, dlx, dcx, sx, rx⟩ := x
                                  simp only at y0 y1 y2 y3 y4 y5 y6
                                  have x0 := box_cell hb28 0
                                  have x1 := box_cell hb28 1
                                  have x2 := box_cell hb28 2
                                  have x3 := box_cell hb28 3
                                  have x4 := box_cell hb28 4
                                  have x5 := box_cell hb28 5
                                  have x6 := box_cell hb28 6
                                  simp only [List.getElem?_toArray, List.getElem?_cons_zero, List.getElem?_cons_succ] at x0 x1 x2 x3 x4 x5 x6
                                  have f0 := box_frozen hb28 0
                                  have f1 := box_frozen hb28 1
                                  have f2 := box_frozen hb28 2
                                  have f3 := box_frozen hb28 3
                                  have f4 := box_frozen hb28 4
                                  have f5 := box_frozen hb28 5
                                  have f6 := box_frozen hb28 6
                                  have hs28 := box7_set unbV ⟨kx, nx, nax, nlx, ncx, dx, dax, dlx, dcx, sx, rx⟩ hb28
                                  have hs27 := other7 (N := wr.heap.size + 1) ⟨kx, nx, nax, nlx, ncx, dx, dax, dlx, dcx, sx, rx⟩ hb27 hPne
                                  have hsS := below7 hbS hP28 ⟨kx, nx, nax, nlx, ncx, dx, dax, dlx, dcx, sx, rx⟩
                                  unfold valO at hs28
                                  simp only at hs28 hs27 hsS
                                  clear c1p
                                  go_upto_region 54 with fail
                                  clear hb27 hb28 hbS x0 x1 x2 x3 x4 x5 x6 f0 f1 f2 f3 f4 f5 f6 y0 y1 y2 y3 y4 y5 y6 c2p
                                  have hb27 := hs27
                                  have hb28 := hs28
                                  have hbS := hsS
                                  clear hs27 hs28 hsS
                                  obtain ⟨wS, hwS⟩ : ∃ wS : World, wS = (((((((wB.setCell ⟨wr.heap.size + 1, 0, none⟩ (.int .i64 kx)).setCell ⟨wr.heap.size + 1, 1, none⟩ (.bool nx)).setCell ⟨wr.heap.size + 1, 2, none⟩ (.slice nax nlx ncx)).setCell ⟨wr.heap.size + 1, 3, none⟩ (.bool dx)).setCell ⟨wr.heap.size + 1, 4, none⟩ (.slice dax dlx dcx)).setCell ⟨wr.heap.size + 1, 5, none⟩ (.string sx)).setCell ⟨wr.heap.size + 1, 6, none⟩ (.int .i64 rx)) := ⟨_, rfl⟩
                                  rw [← hwS] at hb27 hb28 hbS ⊢
                                  clear hwS
                                  have c2 := box_cell hb27 2
                                  simp only [List.getElem?_toArray, List.getElem?_cons_zero, List.getElem?_cons_succ] at c2
                                  have hP9 := HP.out.under hbS
                                  obtain ⟨va9, vc9, hvv9⟩ := own_isSlice hP9.vals
                                  subst hvv9
                                  have c0 := box_cell hP9.box 0
                                  simp only [List.getElem?_toArray, List.getElem?_cons_zero] at c0
                                  have x0 := box_cell hb28 0
                                  have x1 := box_cell hb28 1
                                  have x2 := box_cell hb28 2
                                  have x3 := box_cell hb28 3
                                  have x4 := box_cell hb28 4
                                  have x5 := box_cell hb28 5
                                  have x6 := box_cell hb28 6
                                  simp only [List.getElem?_toArray, List.getElem?_cons_zero, List.getElem?_cons_succ] at x0 x1 x2 x3 x4 x5 x6
                                  have HP9 := Lib.hid hP9
                                  have HOWN := Lib.hid hP9.vals
                                  clear hP9 hb27 hb28
                                  go_wp2_with (at_builtin; refine wpList_append_lies _ rfl _ _ 36 rfl w5.heap.size 58 iV (Value.agg #[.int .i64 0, .bool false, .slice none 0 0, .bool false, .slice none 0 0, .string ⟨#[]⟩, .int .i64 0]) 7 96 Try.underlying36 hiV hv0 hv1 hv2 rfl (by decide) _ _ _ rfl (HOWN.out.alloc _) ⟨wS.heap.size, 0, none⟩ 1 1 (valC ⟨kx, nx, nax, nlx, ncx, dx, dax, dlx, dcx, sx, rx⟩) rfl ?cad ?cbd ?ccd (by decide) ?cdd ?ced ?cfd (wS.heap.size + 1) ?cgd ?_)
                                  case cad => rfl
                                  case cbd => first | exact (World.news_of_block (cs := (valC ⟨kx, nx, nax, nlx, ncx, dx, dax, dlx, dcx, sx, rx⟩).toArray) (t := 58) (fr := (0, 0)) (heap_alloc_new wS _)) | exact (fun _ _ h => h) | exact (fun j u h => (by simpa [valC] using h))
                                  case ccd => simp [Value.oneCell', valC]
                                  case cdd => rw [maxLen_eq', HAL.out]; omega
                                  case ced => rw [HAL.out]; omega
                                  case cfd => have := HP9.out.below.size; simp; omega
                                  case cgd => simp
                                  intro g9 cap9 w2b hown2 hgr2 hat2 _
                                  have hgrS : wS.grownBy w2b (Value.slice va9 acc.length vc9).ownBlock := grown_new (grown_of_below (ext_alloc wS (valO ⟨kx, nx, nax, nlx, ncx, dx, dax, dlx, dcx, sx, rx⟩)) _) hgr2 (fun k hk => .inr hk)
                                  have hPp := HP9.out.push hown2 rfl hgrS (fun q hq => by
                                    simp only [Value.ownBlock, Option.some.injEq] at hq
                                    subst hq
                                    rcases hat2 with h1 | h1
                                    · exact .inl h1
                                    · exact .inr (by omega))
                                  have hbx := (hgrS.block N3 (box_lt HP9.out.box) (Ne.symm (own_box HP9.out.vals HP9.out.box (by decide)))).trans HP9.out.box
                                  have c0b := box_cell hbx 0
                                  simp only [List.getElem?_toArray, List.getElem?_cons_zero] at c0b
                                  have d0b := box_frozen hbx 0
                                  have HPP := Lib.hid hPp
                                  clear hPp hbx hown2 hgr2 hgrS HOWN HP9 c0 c2 x0 x1 x2 x3 x4 x5 x6
                                  go_wp2
                                  go_roundg (ps.length - (k + 1))
                                  case measure => omega
                                  case rel => exact ⟨k + 1, _, _, by omega, by omega, by go_num, by rw [HSS.out]; go_num, by simp [HAL.out], HPP.out, by unfold Hid; rw [HSS.out]; exact HR.out⟩
                              · focus
                                  have ipn : ¬ ((pn : Int) > 0) := by omega
                                  have HR := Lib.hid (HR0.out.trans (out_needs HOWt.out hfi hpn))
                                  clear HR0 hfi
                                  have hy2 := ((ext_trans HP.out.below hbS).block _ hl2).trans hx2
                                  have hP1 := box_lt hb27
                                  obtain ⟨q0, q1, q2, q3, qf, ql⟩ := box4 hy2
                                  have f0 := qf 0
                                  have f1 := qf 1
                                  have f2 := qf 2
                                  have f3 := qf 3
                                  clear qf
                                  have n1 : ¬ (wr.heap.size = N1) := fun e => by have := HP.out.below.size; omega
                                  have n2 : ¬ (N1 = wr.heap.size) := fun e => n1 e.symm
                                  go_wp2
                                  go_region
                                  go_wp2
                                  obtain ⟨t0, t1, t2, t3, -, -⟩ := box4 (res1_set hy2 (.slice none 0 0) (.slice none 0 0) (.slice none 0 0) (.slice none 0 0))
                                  refine bodyPost_ret (v := .tuple #[nilBd, .string (msgT fn (.needs pnm))]) (by simp [results, Try.results21, go_sem, t0, t1, t2, t3, nilBd, msgT, needsT]) rfl ?_
                                  exact ⟨(below_res1 (ext_trans hbw (ext_trans HP.out.below hbS)) (Nat.le_of_lt hN1) _ _ _ _).drew, .inl ⟨_, HRX.out.trans HR.out, rfl⟩⟩
                          | false =>
                            have HR := Lib.hid (HR0.out.trans (out_other (HOW.out.trans hown)))
                            clear HR0 hown HOW c0p c1p c2p
                            have c2 := box_cell hb27 2
                            simp only [List.getElem?_toArray, List.getElem?_cons_zero, List.getElem?_cons_succ] at c2
                            have hP9 := HP.out.under hbS
                            obtain ⟨va9, vc9, hvv9⟩ := own_isSlice hP9.vals
                            subst hvv9
                            have c0 := box_cell hP9.box 0
                            simp only [List.getElem?_toArray, List.getElem?_cons_zero] at c0
                            have x0 := box_cell hb28 0
                            have x1 := box_cell hb28 1
                            have x2 := box_cell hb28 2
                            have x3 := box_cell hb28 3
                            have x4 := box_cell hb28 4
                            have x5 := box_cell hb28 5
                            have x6 := box_cell hb28 6
                            simp only [List.getElem?_toArray, List.getElem?_cons_zero, List.getElem?_cons_succ] at x0 x1 x2 x3 x4 x5 x6
                            have HP9 := Lib.hid hP9
                            have HOWN := Lib.hid hP9.vals
                            clear hP9 hb27 hb28
                            go_wp2_with (at_builtin; refine wpList_append_lies _ rfl _ _ 36 rfl w5.heap.size 58 iV (Value.agg #[.int .i64 0, .bool false, .slice none 0 0, .bool false, .slice none 0 0, .string ⟨#[]⟩, .int .i64 0]) 7 96 Try.underlying36 hiV hv0 hv1 hv2 rfl (by decide) _ _ _ rfl (HOWN.out.alloc _) ⟨wS.heap.size, 0, none⟩ 1 1 (valC ⟨9, false, none, 0, 0, false, none, 0, 0, ⟨#[]⟩, 0⟩) rfl ?cax ?cbx ?ccx (by decide) ?cdx ?cex ?cfx (wS.heap.size + 1) ?cgx ?_)
                            case cax => rfl
                            case cbx => first | exact (World.news_of_block (cs := (valC ⟨9, false, none, 0, 0, false, none, 0, 0, ⟨#[]⟩, 0⟩).toArray) (t := 58) (fr := (0, 0)) (heap_alloc_new wS _)) | exact (fun _ _ h => h) | exact (fun j u h => (by simpa [valC] using h))
                            case ccx => simp [Value.oneCell', valC]
                            case cdx => rw [maxLen_eq', HAL.out]; omega
                            case cex => rw [HAL.out]; omega
                            case cfx => have := HP9.out.below.size; simp; omega
                            intro g9 cap9 w2b hown2 hgr2 hat2 _
                            have hgrS : wS.grownBy w2b (Value.slice va9 acc.length vc9).ownBlock := grown_new (grown_of_below (ext_alloc wS (valO ⟨9, false, none, 0, 0, false, none, 0, 0, ⟨#[]⟩, 0⟩)) _) hgr2 (fun k hk => .inr hk)
                            have hPp := HP9.out.push hown2 rfl hgrS (fun q hq => by
                              simp only [Value.ownBlock, Option.some.injEq] at hq
                              subst hq
                              rcases hat2 with h1 | h1
                              · exact .inl h1
                              · exact .inr (by omega))
                            have hbx := (hgrS.block N3 (box_lt HP9.out.box) (Ne.symm (own_box HP9.out.vals HP9.out.box (by decide)))).trans HP9.out.box
                            have c0b := box_cell hbx 0
                            simp only [List.getElem?_toArray, List.getElem?_cons_zero] at c0b
                            have d0b := box_frozen hbx 0
                            have HPP := Lib.hid hPp
                            clear hPp hbx hown2 hgr2 hgrS HOWN HP9 c0 c2 x0 x1 x2 x3 x4 x5 x6
                            go_wp2
                            go_roundg (ps.length - (k + 1))
                            case measure => omega
                            case rel => exact ⟨k + 1, _, _, by omega, by omega, by go_num, by rw [HSS.out]; go_num, by simp [HAL.out], HPP.out, by unfold Hid; rw [HSS.out]; exact HR.out⟩
                      · have hk' : k = ps.length := by omega
                        have hdn : ps.drop k = [] := List.drop_of_length_le (by omega)
                        have hRR := HRR.out
                        rw [hdn] at hRR
                        have HR := Lib.hid (show RR = .inr (⟨acc, st.names, st.named⟩, l.drop PL) by rw [hRR]; unfold outGo outC; simp)
                        clear hRR hdn hk' HRR
                        obtain ⟨ra0, rc0, hr0⟩ := own_isSlice HP.out.vals
                        obtain ⟨ra1, rc1, hr1⟩ := own_isSlice HP.out.rest
                        obtain ⟨ra2, rc2, hr2⟩ := own_isSlice HP.out.names
                        obtain ⟨ra3, rc3, hr3⟩ := own_isSlice HP.out.named
                        subst hr0
                        subst hr1
                        subst hr2
                        subst hr3
                        have hy2 := (HP.out.below.block _ hl2).trans hx2
                        have c0 := box_cell HP.out.box 0
                        have c1 := box_cell HP.out.box 1
                        have c2 := box_cell HP.out.box 2
                        have c3 := box_cell HP.out.box 3
                        simp only [List.getElem?_toArray, List.getElem?_cons_zero, List.getElem?_cons_succ] at c0 c1 c2 c3
                        obtain ⟨q0, q1, q2, q3, qf, ql⟩ := box4 hy2
                        have f0 := qf 0
                        have f1 := qf 1
                        have f2 := qf 2
                        have f3 := qf 3
                        clear qf
                        go_wp2
                        obtain ⟨t0, t1, t2, t3, -, -⟩ := box4 (res1_set hy2 (.slice ra0 acc.length rc0) (.slice ra1 (l.drop PL).length rc1) (.slice ra2 st.names.length rc2) (.slice ra3 st.named.length rc3))
                        have HLD := Lib.hid (List.length_drop (i := PL) (l := l))
                        refine bodyPost_ret (v := .tuple #[.agg #[.slice ra0 acc.length rc0, .slice ra1 (l.drop PL).length rc1, .slice ra2 st.names.length rc2, .slice ra3 st.named.length rc3], .string ⟨#[]⟩]) (by simp only [List.length_drop] at t0 t1 t2 t3 ⊢; simp [results, Try.results21, go_sem, t0, t1, t2, t3]) rfl ?_
                        refine ⟨below_res1 (ext_trans hbw HP.out.below) (Nat.le_of_lt hN1) _ _ _ _, .inr ⟨_, _, _, _, _, _, HRX.out.trans HR.out, rfl, ?_, ?_, ?_, ?_⟩⟩
                        · exact RowS.of_own (own_res1 HP.out.vals hl2 _ _ _ _)
                        · exact RowS.of_own (own_res1 HP.out.rest hl2 _ _ _ _)
                        · exact names_row (own_res1 HP.out.names hl2 _ _ _ _)
                        · exact RowS.of_own (own_res1 HP.out.named hl2 _ _ _ _)
end Go.Proofs.Ytbickehhnkhabaa
