/- Walk: the parameters without a value get their defaults. -/
import Derived.Test.YtbickehhnkhabaaBd7
import Derived.Test.YtbickehhnkhabaaBd6
namespace Go.Proofs.Ytbickehhnkhabaa
open Go.RowKit

def needsT (fn nm : ByteArray) : ByteArray := fn ++ ⟨#[40, 41, 32, 110, 101, 101, 100, 115, 32, 39]⟩ ++ nm ++ ⟨#[39]⟩

theorem sumN_drop (ps : List Par) (k : Nat) (h : k < ps.length) : sumN (ps.drop k) = ps[k].n + sumN (ps.drop (k + 1)) := by
  unfold sumN
  rw [List.drop_eq_getElem_cons h, List.map_cons, List.sum_cons]

theorem grown_drew {w w' : World} {row : Option Nat} (h : w.grownBy w' row) (n : Nat) : w.grownBy (w'.drewN n) row := ⟨h.os, h.tape, h.output, h.size, h.block⟩

theorem own_cells7v {w : World} {base m n : Nat} {L : List Val} {v : Value} (h : w.ownsRow base 58 7 v m (L.flatMap valC)) (hL : L.length = m) (hn : n < L.length) :
    ∃ g, v.ownBlock = some g ∧ w.cell? ⟨g, n * 7, none⟩ = some (.int .i64 L[n].k) ∧ w.cell? ⟨g, n * 7 + 1, none⟩ = some (.bool L[n].n) ∧ w.cell? ⟨g, n * 7 + 2, none⟩ = some (.slice L[n].na L[n].nl L[n].nc) ∧
      w.cell? ⟨g, n * 7 + 3, none⟩ = some (.bool L[n].d) ∧ w.cell? ⟨g, n * 7 + 4, none⟩ = some (.slice L[n].da L[n].dl L[n].dc) ∧ w.cell? ⟨g, n * 7 + 5, none⟩ = some (.string L[n].s) ∧ w.cell? ⟨g, n * 7 + 6, none⟩ = some (.int .i64 L[n].r) := by
  subst hL
  obtain ⟨g, c, rfl, _⟩ := own_form h (by omega)
  obtain ⟨b, off, e, z0, z1, z2, z3, z4, z5, z6⟩ := ValsAt.at (w := w) (l := L) (RowS.of_own h) hn
  simp only [Option.some.injEq, Addr.mk.injEq, and_true] at e
  obtain ⟨rfl, rfl⟩ := e
  simp only [Nat.zero_add] at z0 z1 z2 z3 z4 z5 z6
  exact ⟨g, rfl, z0, z1, z2, z3, z4, z5, z6⟩

theorem below_cellsB {B : Nat} {w w' : World} (hb : Below B w w') (hB : w.heap.size = B := by rfl) : ∀ (p : Addr) (v : Value), w.cell? p = some v → w'.cell? p = w.cell? p := fun p v h => by
  subst hB
  exact hb.cell (World.block_lt_of_cell? _ _ h)

theorem isUV_at {l : List Val} {i : Nat} (h : i < l.length) : l.getD i unbV = l[i] := by
  rw [List.getD_eq_getElem?_getD, List.getElem?_eq_getElem h]; rfl

set_option maxRecDepth 100000 in
set_option maxHeartbeats 4000000 in
theorem rest_any (pv dv vv rv nv mv : Value) (fn : ByteArray) (ps : List Par) (ds vals : List Val) (N : Nat) (w0 w : World) (hv : ParamsAt w0 pv ps) (hd : ValsAt w0 dv ds) (hb0 : Below w0.heap.size w0 w) (hp1 : ps.length ≤ 12) (hds : ds.length = sumN ps)
    (hk : ∀ i (h : i < ps.length), 0 ≤ ps[i].k ∧ ps[i].k ≤ 3) (hfn : fn.size ≤ 140737488355328) (hsz : ∀ p ∈ ps, p.s.size ≤ 140737488355328) (hvl : vals.length = ps.length)
    (hN : w.heap[N]? = some (bdO pv fn vv rv nv mv)) (hown : w.ownsRow w0.heap.size 58 7 vv ps.length (vals.flatMap valC)) :
    Calls Try.prog 48 #[.pointer (some ⟨N, 0, none⟩), dv] w fun e w' =>
      (∃ s, restGo unbV isUV 0 vals ds ps = .inl (.needs s) ∧ e = .returned (.string (needsT fn s)) ∧ Below w0.heap.size w0 w') ∨
      (∃ vals', restGo unbV isUV 0 vals ds ps = .inr vals' ∧ e = .returned (.string ⟨#[]⟩) ∧ w'.heap[N]? = some (bdO pv fn vv rv nv mv) ∧ w'.ownsRow w0.heap.size 58 7 vv ps.length (vals'.flatMap valC) ∧ vals'.length = ps.length ∧ w.grownBy w' vv.ownBlock ∧ Below w0.heap.size w0 w') := by
  obtain ⟨da, dc, rfl⟩ := hd.isSlice
  obtain ⟨pa, pc, rfl⟩ := hv.len
  have HV := Lib.hid hv
  have HK := Lib.hid hk
  have HSZ := Lib.hid hsz
  clear hv hk hsz
  unfold bdO at hN
  have c0 := box_cell hN 0
  simp only [List.getElem?_toArray, List.getElem?_cons_zero] at c0
  generalize hRR : restGo unbV isUV 0 vals ds ps = RR
  have hRel : Hid (RR = restGo unbV isUV 0 vals ds (ps.drop 0)) := by unfold Hid; rw [← hRR]; rfl
  have hd0 : Hid (ds.length = sumN (ps.drop 0)) := hds
  clear hRR hds
  go_enter Try.func48, Try.ntmps48
  go_wp2
  clear c0
  go_loopg [1, 13] ps.length (fun q s1 s13 wr => ∃ i : Nat, ∃ vs dl : List Val, i ≤ ps.length ∧ ps.length - i ≤ q ∧ s13 = .int .i64 i ∧ ValsAt w0 s1 dl ∧ Hid (dl.length = sumN (ps.drop i)) ∧ Hid (RR = restGo unbV isUV i vs dl (ps.drop i)) ∧ vs.length = ps.length ∧
    wr.heap[N]? = some (bdO (.slice pa ps.length pc) fn vv rv nv mv) ∧ wr.ownsRow w0.heap.size 58 7 vv ps.length (vs.flatMap valC) ∧ w.grownBy wr vv.ownBlock ∧ Below w0.heap.size w0 wr)
  case atStart => exact ⟨0, vals, ds, Nat.zero_le _, by omega, rfl, hd, hd0, hRel, hvl, hN, hown, grown_refl _ _, hb0⟩
  case round =>
    clear hd hd0 hRel hvl hN hown hb0
    obtain ⟨i, vs, dl, hi, hq, rfl, hd, hdl, hRel, hvl, hN, hown, hgr, hb⟩ := hrel
    by_cases hlt : i < ps.length
    · have hsp := sumN_drop ps i hlt
      have hdl' := hdl.out
      rw [hsp] at hdl'
      have hrg := hRel.out
      rw [List.drop_eq_getElem_cons hlt] at hrg
      unfold restGo at hrg
      have HRG := Lib.hid hrg
      have hkk := HK.out i hlt
      have hsk := HSZ.out ps[i] (List.getElem_mem hlt)
      clear hrg hsp hRel
      obtain ⟨u1, hu1, hs1, -, -⟩ := RowS.sub hd Try.underlying36 sizeVal (i := 0) (j := ps[i].n) (Nat.zero_le _) (by omega)
      obtain ⟨u2, hu2, -, hs2, -⟩ := RowS.sub hd Try.underlying36 sizeVal (i := ps[i].n) (j := dl.length) (by omega) (Nat.le_refl _)
      have r1 := hs1 rfl
      have r2 := hs2 rfl
      have hfl : ((dl.flatMap valC).drop (ps[i].n * 7)).take ((dl.length - ps[i].n) * 7) = (dl.drop ps[i].n).flatMap valC := by
        rw [flat_drop, List.take_of_length_le (by rw [flat_length7, List.length_drop]; exact Nat.le_refl _)]
      have hfl1 : ((dl.flatMap valC).drop (0 * 7)).take ((ps[i].n - 0) * 7) = (dl.take ps[i].n).flatMap valC := by
        rw [Nat.zero_mul, List.drop_zero, Nat.sub_zero, flat_take]
      rw [hfl] at hu2
      rw [hfl1, Nat.sub_zero] at hu1
      have hu2' : ValsAt w0 u2 (dl.drop ps[i].n) := by unfold ValsAt; rw [List.length_drop]; exact hu2
      have hu1' : ValsAt w0 u1 (dl.take ps[i].n) := by unfold ValsAt; rw [List.length_take, Nat.min_eq_left (by omega)]; exact hu1
      have hn0 : (dl.drop ps[i].n).length = sumN (ps.drop (i + 1)) := by rw [List.length_drop]; omega
      have HDN := Lib.hid hn0
      have hnle : ps[i].n ≤ dl.length := by omega
      obtain ⟨a1, k1, rfl⟩ := hu1'.isSlice
      obtain ⟨a2, k2, rfl⟩ := hu2'.isSlice
      rw [List.length_drop] at r2 hu2'
      have hl1 : (dl.take ps[i].n).length = ps[i].n := by rw [List.length_take]; omega
      rw [hl1] at r1 hu1'
      clear hs1 hs2 hdl' hdl hfl hfl1 hu1 hu2 hn0 hl1
      obtain ⟨a', c', he, _, _, hc⟩ := HV.out.below hb
      simp only [Value.slice.injEq, true_and] at he
      obtain ⟨rfl, rfl⟩ := he
      obtain ⟨b, off, da', dc', rfl, z0, z1, z2⟩ := hc i hlt
      clear hc
      have hvi : i < vs.length := by omega
      rw [isUV_at hvi] at HRG
      generalize ps[i].k = pk at *
      generalize ps[i].n = pn at *
      generalize ps[i].s = nm at *
      obtain ⟨sd, sdc, rfl⟩ := hd.isSlice
      have hbA := ext_alloc wr (.cells #[.int .i64 pk, .string nm, .slice da' pn dc'] 51)
      have hbxA := heap_new wr (.cells #[.int .i64 pk, .string nm, .slice da' pn dc'] 51)
      go_upto_region 4 with fail
      have hNA := (hbA.block N (box_lt hN)).trans hN
      have hownA := own_below hown hbA
      have hbwA := hb.trans (hbA.mono hb.size)
      have hgrA := grown_new hgr (grown_of_below hbA none) (fun k h => by cases h)
      generalize (wr.alloc (.cells #[.int .i64 pk, .string nm, .slice da' pn dc'] 51)) = wA at *
      obtain ⟨x0, x1, x2, x3, x4⟩ := box3 hbxA
      clear z0 z1 z2 hN hown hb hbxA hgr
      unfold bdO at hNA
      have d0 := box_cell hNA 0
      have d1 := box_cell hNA 1
      have d2 := box_cell hNA 2
      simp only [List.getElem?_toArray, List.getElem?_cons_zero, List.getElem?_cons_succ] at d0 d1 d2
      by_cases h13 : pk = 1 ∨ pk = 3
      · have HR := Lib.hid (HRG.out.trans (if_pos (by rcases h13 with h | h; exact .inl h; exact .inr (.inl h))))
        clear HRG
        rcases h13 with rfl | rfl
        · go_wp2
          go_quiet (fail)
          go_wp2
          go_roundg (ps.length - (i + 1))
          case measure => omega
          case rel => exact ⟨i + 1, vs, dl.drop pn, by omega, by omega, by go_num, hu2', HDN, HR, hvl, hNA, own_drew hownA, grown_drew hgrA _, below_drewN hbwA _⟩
        · go_wp2
          go_quiet (fail)
          go_wp2
          go_roundg (ps.length - (i + 1))
          case measure => omega
          case rel => exact ⟨i + 1, vs, dl.drop pn, by omega, by omega, by go_num, hu2', HDN, HR, hvl, hNA, own_drew hownA, grown_drew hgrA _, below_drewN hbwA _⟩
      · have hk1 : ¬ pk = 1 := fun h => h13 (.inl h)
        have hk3 : ¬ pk = 3 := fun h => h13 (.inr h)
        have hb1 : (pk == 1) = false := by simpa using hk1
        have hb3 : (pk == 3) = false := by simpa using hk3
        clear h13
        obtain ⟨g, c, rfl, hg⟩ := own_form hownA (by omega)
        obtain ⟨g', hgg, y0, y1, y2, y3, y4, y5, y6⟩ := own_cells7v hownA hvl hvi
        simp only [Value.ownBlock, Option.some.injEq] at hgg
        subst hgg
        have HSET := Lib.hid (fun x => own_set7 hownA hvi x)
        have hNg : N ≠ g := own_ne_box hownA hNA (by decide)
        have HUn := Lib.hid (show isUV vs[i] = (vs[i].k == 9) from rfl)
        generalize hgx : vs[i] = x at *
        clear hgx
        obtain ⟨kx, nx, nax, nlx, ncx, dx, dax, dlx, dcx, sx, rx⟩ := x
        simp only at y0 y1 y2 y3 y4 y5 y6 HUn
        cases hu : (kx == 9) with
        | false =>
          have HR := Lib.hid (HRG.out.trans (if_pos (.inr (.inr (HUn.out.trans hu)))))
          have hun : (kx != 9) = true := by rw [bne, hu]; rfl
          clear HRG HUn HSET
          go_wp2
          go_quiet (fail)
          go_wp2
          go_roundg (ps.length - (i + 1))
          case measure => omega
          case rel => exact ⟨i + 1, vs, dl.drop pn, by omega, by omega, by go_num, hu2', HDN, HR, hvl, hNA, own_drew hownA, grown_drew hgrA _, below_drewN hbwA _⟩
        | true =>
          have hun : (kx != 9) = false := by rw [bne, hu]; rfl
          have HR0 := Lib.hid (HRG.out.trans (if_neg (fun h => by
            rcases h with h | h | h
            · exact hk1 h
            · exact hk3 h
            · rw [HUn.out, hu] at h; cases h)))
          clear HRG HUn
          by_cases hp0 : pn = 0
          · have HR := Lib.hid (HR0.out.trans (if_pos hp0))
            subst hp0
            clear HR0 HSET
            have hs1 : fn.size ≤ 140737488355328 := hfn
            go_wp2
            go_quiet (fail)
            go_wp2
            go_quiet (fail)
            go_wp2
            go_ret
            exact .inl ⟨nm, HR.out, rfl, below_drewN (below_drewN hbwA _) _⟩
          · have HR := Lib.hid (HR0.out.trans (if_neg hp0))
            have hpb : ((pn : Int) == 0) = false := by rw [beq_eq_false_iff_ne]; omega
            clear HR0 HSET
            obtain ⟨b1, off1, rfl, q0, q1, q2, q3, q4, q5, q6⟩ := ValsAt.at hu1' (i := 0) (by rw [List.length_take]; omega)
            have hdl0 : (dl.take pn)[0]'(by rw [List.length_take]; omega) = dl.getD 0 unbV := by
              rw [List.getElem_take, isUV_at (by omega)]
            rw [hdl0] at q0 q1 q2 q3 q4 q5 q6
            simp only [Nat.zero_mul, Nat.add_zero] at q0 q1 q2 q3 q4 q5 q6
            clear hdl0 hu1'
            generalize hgy : dl.getD 0 unbV = yv at *
            clear hgy
            go_wp2
            go_quiet (fail)
            go_upto_region 9 with fail
            have hNB : (wA.drewN nq).heap[N]? = _ := hNA
            have hownB : (wA.drewN nq).ownsRow w0.heap.size 58 7 (.slice (some ⟨g, 0, none⟩) ps.length c) ps.length (vs.flatMap valC) := own_drew hownA
            have hbwB := below_drewN hbwA nq
            have hgrB := grown_drew hgrA nq
            clear hNA hownA hbwA hgrA d0 d1 d2 x0 x1 x2 x3 x4
            clear y0 y1 y2 y3 y4 y5 y6
            have p0 := below_cellsB (B := w0.heap.size) (w := w0) hbwB
            generalize wA.drewN nq = wB at *
            have d0 := box_cell hNB 0
            have d2 := box_cell hNB 2
            simp only [List.getElem?_toArray, List.getElem?_cons_zero, List.getElem?_cons_succ] at d0 d2
            rw [← p0 _ _ q0] at q0
            rw [← p0 _ _ q1] at q1
            rw [← p0 _ _ q2] at q2
            rw [← p0 _ _ q3] at q3
            rw [← p0 _ _ q4] at q4
            rw [← p0 _ _ q5] at q5
            rw [← p0 _ _ q6] at q6
            obtain ⟨g', hgg, y0, y1, y2, y3, y4, y5, y6⟩ := own_cells7v hownB hvl hvi
            simp only [Value.ownBlock, Option.some.injEq] at hgg
            subst hgg
            have f0 := hownB.frozenAt (i * 7)
            have f1 := hownB.frozenAt (i * 7 + 1)
            have f2 := hownB.frozenAt (i * 7 + 2)
            have f3 := hownB.frozenAt (i * 7 + 3)
            have f4 := hownB.frozenAt (i * 7 + 4)
            have f5 := hownB.frozenAt (i * 7 + 5)
            have f6 := hownB.frozenAt (i * 7 + 6)
            have HSET := Lib.hid (own_set7 hownB hvi yv)
            have hNl := box_lt hNB
            generalize hgx : vs[i] = x at *
            clear hgx
            obtain ⟨ky, ny, nay, nly, ncy, dy, day, dly, dcy, sy, ry⟩ := yv
            simp only at q0 q1 q2 q3 q4 q5 q6 HSET
            clear p0
            go_wp2
            go_region
            obtain ⟨hS1, hS2⟩ := HSET.out
            generalize (((((((wB.setCell ⟨g, i * 7, none⟩ (.int .i64 ky)).setCell ⟨g, i * 7 + 1, none⟩ (.bool ny)).setCell ⟨g, i * 7 + 2, none⟩ (.slice nay nly ncy)).setCell ⟨g, i * 7 + 3, none⟩ (.bool dy)).setCell ⟨g, i * 7 + 4, none⟩ (.slice day dly dcy)).setCell ⟨g, i * 7 + 5, none⟩ (.string sy)).setCell ⟨g, i * 7 + 6, none⟩ (.int .i64 ry)) = wS at *
            have hNS := (hS2.block N hNl (by simpa using hNg)).trans hNB
            have hbS : Below w0.heap.size w0 wS := hbwB.grown hS2 hbwB.size (fun q hq => by simp at hq; omega)
            have hgS := grown_trans hgrB hS2
            clear HSET hS2 y0 y1 y2 y3 y4 y5 y6 f0 f1 f2 f3 f4 f5 f6 hgrB hbwB hNB hownB q0 q1 q2 q3 q4 q5 q6
            go_wp2
            go_roundg (ps.length - (i + 1))
            case measure => omega
            case rel => exact ⟨i + 1, _, dl.drop pn, by omega, by omega, by go_num, hu2', HDN, HR, by simpa using hvl, hNS, own_drew hS1, grown_drew hgS 1, hbS.drew⟩
    · have hdn : ps.drop i = [] := List.drop_of_length_le (by omega)
      have HR := Lib.hid (show RR = .inr vs by rw [hRel.out, hdn]; rfl)
      clear hdn hRel
      go_wp2
      go_ret
      exact .inr ⟨vs, HR.out, rfl, hN, hown, hvl, hgr, hb⟩
end Go.Proofs.Ytbickehhnkhabaa
