/- Walk: an argument with a name. -/
import Derived.Test.YtbickehhnkhabaaBd8
import Derived.Test.YtbickehhnkhabaaBd9
import Derived.Deep.RegionHeld3
import Derived.Deep.AppendLies
import Derived.Test.YtbickehhnkhabaaOl
namespace Go.Proofs.Ytbickehhnkhabaa
open Go.RowKit

def msgT (fn : ByteArray) : BMsg → ByteArray
  | .many => fn ++ ⟨#[40, 41, 32, 103, 111, 116, 32, 116, 111, 111, 32, 109, 97, 110, 121, 32, 97, 114, 103, 117, 109, 101, 110, 116, 115]⟩
  | .two s => fn ++ ⟨#[40, 41, 32, 103, 111, 116, 32, 116, 119, 111, 32, 118, 97, 108, 117, 101, 115, 32, 102, 111, 114, 32, 39]⟩ ++ s ++ ⟨#[39]⟩
  | .unknown s => fn ++ ⟨#[40, 41, 32, 103, 111, 116, 32, 97, 110, 32, 117, 110, 107, 110, 111, 119, 110, 32, 97, 114, 103, 117, 109, 101, 110, 116, 32, 39]⟩ ++ s ++ ⟨#[39]⟩
  | .needs s => needsT fn s

/-- A binding under way, in memory: its box at N, its rows of its own and apart from one another. -/
structure BAt (w0 w : World) (N : Nat) (pv : Value) (fn : ByteArray) (m : Nat) (vv rv nv mv : Value) (st : BSt Val) (rest : List Val) : Prop where
  box : w.heap[N]? = some (bdO pv fn vv rv nv mv)
  base : w0.heap.size ≤ N
  len : st.vals.length = m
  vals : w.ownsRow w0.heap.size 58 7 vv m (st.vals.flatMap valC)
  rest : w.ownsRow w0.heap.size 58 7 rv rest.length (rest.flatMap valC)
  names : w.ownsRow w0.heap.size 9 1 nv st.names.length (st.names.map Value.string)
  named : w.ownsRow w0.heap.size 58 7 mv st.named.length (st.named.flatMap valC)
  d1 : ∀ k, vv.ownBlock = some k → rv.ownBlock ≠ some k
  d2 : ∀ k, vv.ownBlock = some k → mv.ownBlock ≠ some k
  d3 : ∀ k, rv.ownBlock = some k → mv.ownBlock ≠ some k
  below : Below w0.heap.size w0 w

theorem names_row {w : World} {base : Nat} {e : TypeId} {v : Value} {l : List ByteArray} (h : w.ownsRow base e 1 v l.length (l.map Value.string)) : RowOf Value.string w v l := by
  have h' : w.ownsRow base e 1 v (l.map Value.string).length (l.map Value.string) := by simpa using h
  obtain ⟨a, cap, rfl, hl, hm, hc⟩ := Row_of_own h'
  refine ⟨a, cap, by simp, by simpa using hl, hm, fun i hi => ?_⟩
  obtain ⟨b, off, rfl, hcell⟩ := hc i (by simpa using hi)
  exact ⟨b, off, rfl, by simpa using hcell⟩

theorem BAt.under {w0 w w' : World} {N : Nat} {pv : Value} {fn : ByteArray} {m : Nat} {vv rv nv mv : Value} {st : BSt Val} {rest : List Val} (h : BAt w0 w N pv fn m vv rv nv mv st rest) (hb : Below w.heap.size w w') : BAt w0 w' N pv fn m vv rv nv mv st rest :=
  ⟨(hb.block N (box_lt h.box)).trans h.box, h.base, h.len, own_below h.vals hb, own_below h.rest hb, own_below h.names hb, own_below h.named hb, h.d1, h.d2, h.d3, ext_trans h.below hb⟩

theorem BAt.stored {w0 w w' : World} {N : Nat} {pv : Value} {fn : ByteArray} {m g c : Nat} {rv nv mv : Value} {st : BSt Val} {rest : List Val} {k : Nat} {x : Val} (h : BAt w0 w N pv fn m (.slice (some ⟨g, 0, none⟩) m c) rv nv mv st rest)
    (h1 : w'.ownsRow w0.heap.size 58 7 (.slice (some ⟨g, 0, none⟩) m c) m ((st.vals.set k x).flatMap valC)) (h2 : w.grownBy w' (some g)) :
    BAt w0 w'.drew N pv fn m (.slice (some ⟨g, 0, none⟩) m c) rv nv mv { st with vals := st.vals.set k x } rest := by
  have hg : w0.heap.size ≤ g := (h.vals.lt g rfl).1
  have hNg : N ≠ g := own_ne_box h.vals h.box (by decide)
  refine ⟨(h2.block N (box_lt h.box) (by simpa using hNg)).trans h.box, h.base, by simpa using h.len, h1, own_drew (h.rest.kept h2 ?_), own_drew (h.names.kept h2 ?_), own_drew (h.named.kept h2 ?_), h.d1, h.d2, h.d3, (h.below.grown h2 h.below.size (fun q hq => by simp at hq; omega)).drew⟩
  · exact .inr (h.d1 g rfl)
  · rcases own_apart h.names h.vals (by decide) with h3 | h3
    · exact .inl h3
    · exact .inr h3
  · exact .inr (h.d2 g rfl)

theorem own_far {w w' : World} {base : Nat} {e : TypeId} {z : Nat} {v : Value} {n : Nat} {xs : List Value} (h : w.ownsRow base e z v n xs) (hf : ∀ k, v.ownBlock = some k → w'.heap[k]? = w.heap[k]?) : w'.ownsRow base e z v n xs := by
  refine ⟨h.1, ?_⟩
  rcases h.2 with ⟨rfl, h0⟩ | ⟨g, cap, cur, rfl, hb, hg, r⟩
  · exact .inl ⟨rfl, h0⟩
  · exact .inr ⟨g, cap, cur, rfl, hb, (hf g rfl).trans hg, r⟩

theorem bdO_push {w : World} {N : Nat} {a0 a1 a2 a3 a4 a5 : Value} {t : TypeId} (h : w.heap[N]? = some (.cells #[a0, a1, a2, a3, a4, a5] t (0, 0))) (x y : Value) :
    ((w.setCell ⟨N, 4, none⟩ x).setCell ⟨N, 5, none⟩ y).heap[N]? = some (.cells #[a0, a1, a2, a3, x, y] t (0, 0)) := by
  simp [World.setCell, Array.getElem?_modify, h]

theorem BAt.pushed {w0 w7 w2 : World} {N : Nat} {pv : Value} {fn nm : ByteArray} {m : Nat} {vv rv nv mv nv' mv' : Value} {st : BSt Val} {rest : List Val} {x : Val} (h : BAt w0 w7 N pv fn m vv rv nv mv st rest)
    (far : ∀ k, k < w7.heap.size → nv.ownBlock ≠ some k → mv.ownBlock ≠ some k → w2.heap[k]? = w7.heap[k]?) (hbel : Below w0.heap.size w7 w2)
    (hn : w2.ownsRow w0.heap.size 9 1 nv' (st.names.length + 1) (st.names.map Value.string ++ [.string nm])) (hm : w2.ownsRow w0.heap.size 58 7 mv' (st.named.length + 1) (st.named.flatMap valC ++ valC x))
    (hmk : ∀ k, mv'.ownBlock = some k → mv.ownBlock = some k ∨ w7.heap.size ≤ k) :
    BAt w0 ((w2.setCell ⟨N, 4, none⟩ nv').setCell ⟨N, 5, none⟩ mv') N pv fn m vv rv nv' mv' { st with names := st.names ++ [nm], named := st.named ++ [x] } rest := by
  have hNn : nv.ownBlock ≠ some N := own_box h.names h.box (by decide)
  have hNm : mv.ownBlock ≠ some N := own_box h.named h.box (by decide)
  have hbox2 := (far N (box_lt h.box) hNn hNm).trans h.box
  have hvals := own_far (w' := w2) h.vals (fun k hk => far k (h.vals.lt k hk).2 (fun e => by
    rcases own_apart h.vals h.names (by decide) with h1 | h1
    · rw [h1] at hk; cases hk
    · exact h1 (hk.trans e.symm)) (h.d2 k hk))
  have hrest := own_far (w' := w2) h.rest (fun k hk => far k (h.rest.lt k hk).2 (fun e => by
    rcases own_apart h.rest h.names (by decide) with h1 | h1
    · rw [h1] at hk; cases hk
    · exact h1 (hk.trans e.symm)) (h.d3 k hk))
  have step : ∀ {e : TypeId} {z : Nat} {v : Value} {n : Nat} {xs : List Value}, w2.ownsRow w0.heap.size e z v n xs → v.ownBlock ≠ some N → ((w2.setCell ⟨N, 4, none⟩ nv').setCell ⟨N, 5, none⟩ mv').ownsRow w0.heap.size e z v n xs := fun ho hne =>
    (ho.kept (grown_setC w2 N 4 nv') (.inr hne)).kept (grown_setC _ N 5 mv') (.inr hne)
  refine ⟨bdO_push hbox2 nv' mv', h.base, h.len, step hvals (own_box hvals hbox2 (by decide)), step hrest (own_box hrest hbox2 (by decide)), ?_, ?_, h.d1, fun k hk e => ?_, fun k hk e => ?_, (((h.below.trans hbel).setCell h.base _).setCell h.base _)⟩
  · exact own_cast (step hn (own_box hn hbox2 (by decide))) (by simp) (by simp)
  · exact own_cast (step hm (own_box hm hbox2 (by decide))) (by simp) (by simp)
  · rcases hmk k e with h1 | h1
    · exact h.d2 k hk h1
    · have := (h.vals.lt k hk).2; omega
  · rcases hmk k e with h1 | h1
    · exact h.d3 k hk h1
    · have := (h.rest.lt k hk).2; omega

/-- What the drawn region loads. -/
def NC (N V0 : Nat) (nv mv : Value) (kx : Int) (nx : Bool) (nax : Option Addr) (nlx ncx : Nat) (dx : Bool) (dax : Option Addr) (dlx dcx : Nat) (sx : ByteArray) (rx : Int) (W : World) : Prop :=
  W.cell? ⟨N, 4, none⟩ = some nv ∧ W.cell? ⟨N, 5, none⟩ = some mv ∧ W.cell? ⟨V0, 0, none⟩ = some (.int .i64 kx) ∧ W.cell? ⟨V0, 1, none⟩ = some (.bool nx) ∧ W.cell? ⟨V0, 2, none⟩ = some (.slice nax nlx ncx) ∧
    W.cell? ⟨V0, 3, none⟩ = some (.bool dx) ∧ W.cell? ⟨V0, 4, none⟩ = some (.slice dax dlx dcx) ∧ W.cell? ⟨V0, 5, none⟩ = some (.string sx) ∧ W.cell? ⟨V0, 6, none⟩ = some (.int .i64 rx)

theorem NC.alloc {N V0 : Nat} {nv mv : Value} {kx : Int} {nx : Bool} {nax : Option Addr} {nlx ncx : Nat} {dx : Bool} {dax : Option Addr} {dlx dcx : Nat} {sx : ByteArray} {rx : Int} {W : World} (h : NC N V0 nv mv kx nx nax nlx ncx dx dax dlx dcx sx rx W) (o : Obj) : NC N V0 nv mv kx nx nax nlx ncx dx dax dlx dcx sx rx (W.alloc o) := by
  obtain ⟨h1, h2, h3, h4, h5, h6, h7, h8, h9⟩ := h
  exact ⟨Lib.cell?_alloc_some _ h1, Lib.cell?_alloc_some _ h2, Lib.cell?_alloc_some _ h3, Lib.cell?_alloc_some _ h4, Lib.cell?_alloc_some _ h5, Lib.cell?_alloc_some _ h6, Lib.cell?_alloc_some _ h7, Lib.cell?_alloc_some _ h8, Lib.cell?_alloc_some _ h9⟩
theorem NC.grown {N V0 : Nat} {nv mv : Value} {kx : Int} {nx : Bool} {nax : Option Addr} {nlx ncx : Nat} {dx : Bool} {dax : Option Addr} {dlx dcx : Nat} {sx : ByteArray} {rx : Int} {W W' : World} {row : Option Nat} (h : NC N V0 nv mv kx nx nax nlx ncx dx dax dlx dcx sx rx W) (hg : W.grownBy W' row) (hN : row ≠ some N) (hV : row ≠ some V0) : NC N V0 nv mv kx nx nax nlx ncx dx dax dlx dcx sx rx W' := by
  obtain ⟨h1, h2, h3, h4, h5, h6, h7, h8, h9⟩ := h
  exact ⟨hg.cell h1 hN.symm, hg.cell h2 hN.symm, hg.cell h3 hV.symm, hg.cell h4 hV.symm, hg.cell h5 hV.symm, hg.cell h6 hV.symm, hg.cell h7 hV.symm, hg.cell h8 hV.symm, hg.cell h9 hV.symm⟩

theorem alloc2_first (w : World) (o1 o2 : Obj) : ((w.alloc o1).alloc o2).heap[w.heap.size]? = some o1 := box_alloc (heap_alloc_new w o1) o2
theorem alloc2_second (w : World) (o1 o2 : Obj) : ((w.alloc o1).alloc o2).heap[w.heap.size + 1]? = some o2 := by simpa using heap_alloc_new (w.alloc o1) o2
theorem kept_block {w7 W w1 : World} {row : Option Nat} {q : Nat} {o : Obj} (hg : W.grownBy w1 row) (hr : ∀ k, row = some k → k < w7.heap.size) (hq : w7.heap.size ≤ q) (h : W.heap[q]? = some o) : w1.heap[q]? = some o :=
  (hg.block q (box_lt h) (fun e => by have := hr q e.symm; omega)).trans h

set_option maxRecDepth 100000 in
set_option maxHeartbeats 4000000 in
theorem named_any (pv vv rv nv mv : Value) (fn nm : ByteArray) (ps : List Par) (st : BSt Val) (rest : List Val) (v : Val) (N : Nat) (w0 w : World) (hv : ParamsAt w0 pv ps) (h : BAt w0 w N pv fn ps.length vv rv nv mv st rest)
    (hfn : fn.size ≤ 140737488355328) (hnm : nm.size ≤ 140737488355328) (hnl : st.names.length ≤ 1000) (hml : st.named.length ≤ 1000) :
    Calls Try.prog 47 #[.pointer (some ⟨N, 0, none⟩), .string nm, valA v] w fun e w' =>
      (∃ m, nameStep unbV isUV ps st nm v = .inl m ∧ e = .returned (.string (msgT fn m)) ∧ Below w0.heap.size w0 w') ∨
      (∃ st' nv' mv', nameStep unbV isUV ps st nm v = .inr st' ∧ e = .returned (.string ⟨#[]⟩) ∧ BAt w0 w' N pv fn ps.length vv rv nv' mv' st' rest) := by
  obtain ⟨kx, nx, nax, nlx, ncx, dx, dax, dlx, dcx, sx, rx⟩ := v
  obtain ⟨pa, pc, rfl⟩ := hv.len
  have hbA := ext_alloc w (valO ⟨kx, nx, nax, nlx, ncx, dx, dax, dlx, dcx, sx, rx⟩)
  have hbxA := heap_new w (valO ⟨kx, nx, nax, nlx, ncx, dx, dax, dlx, dcx, sx, rx⟩)
  have hA := h.under hbA
  have HMW := Lib.hid (show ∀ k, mv.ownBlock = some k → k < w.heap.size from fun k hk => (h.named.lt k hk).2)
  unfold valA
  unfold valO at hbA hbxA hA
  simp only at *
  have HV := Lib.hid hv
  clear hv h
  generalize hgs : nameStep unbV isUV ps st nm ⟨kx, nx, nax, nlx, ncx, dx, dax, dlx, dcx, sx, rx⟩ = NS
  unfold nameStep at hgs
  have HGS := Lib.hid hgs
  clear hgs
  go_enter Try.func47, Try.ntmps47
  go_upto_region 1 with fail
  generalize (w.alloc (.cells #[.int .i64 kx, .bool nx, .slice nax nlx ncx, .bool dx, .slice dax dlx dcx, .string sx, .int .i64 rx] 58)) = wA at *
  have c0 := box_cell hA.box 0
  simp only [List.getElem?_toArray, List.getElem?_cons_zero] at c0
  have hat := at_any ps _ N nm wA (HV.out.below hA.below) c0
  go_wp2_with fail
  refine hat.mono ?_
  rintro e w5 ⟨rfl, hb5⟩
  have h5 := hA.under hb5
  have hbx5 := (hb5.block w.heap.size (box_lt hbxA)).trans hbxA
  clear hat hA c0 hb5 hbxA hbA
  have H5 := Lib.hid h5
  have hNb := h5.box
  unfold bdO at hNb
  have c0 := box_cell hNb 0
  have c1 := box_cell hNb 1
  have c2 := box_cell hNb 2
  have c4 := box_cell hNb 4
  simp only [List.getElem?_toArray, List.getElem?_cons_zero, List.getElem?_cons_succ] at c0 c1 c2 c4
  have hcon := ContainsS_any nv st.names nm w5 (names_row h5.names)
  have HCON := Lib.hid hcon
  clear hcon
  cases hat : atN ps nm with
  | none =>
    have HG : Hid ((if st.names.any (sameN nm) = true then .inl (.two nm) else if hasPairs ps = true then .inr { st with names := st.names ++ [nm], named := st.named ++ [⟨kx, nx, nax, nlx, ncx, dx, dax, dlx, dcx, sx, rx⟩] } else .inl (.unknown nm)) = NS) := by
      have h := HGS.out
      rw [hat] at h
      exact h
    clear HGS hat
    unfold optI
    simp only
    have hcon := HCON.out
    cases hany : st.names.any (sameN nm) with
    | true =>
      rw [hany] at hcon
      have HR : Hid (NS = .inl (.two nm)) := by unfold Hid; rw [← HG.out, hany]; rfl
      clear HG hany HCON h5
      go_wp2_with fail
      refine hcon.mono ?_
      rintro e w6 ⟨rfl, hb6⟩
      have e1 := box_cell ((hb6.block N (box_lt hNb)).trans hNb) 1
      simp only [List.getElem?_toArray, List.getElem?_cons_zero, List.getElem?_cons_succ] at e1
      have hbw := ext_trans H5.out.below hb6
      clear hcon hb6 hNb c0 c1 c2 c4
      go_wp2
      go_ret
      exact .inl ⟨.two nm, HR.out, rfl, hbw⟩
    | false =>
      rw [hany] at hcon
      have HG2 : Hid ((if hasPairs ps = true then .inr { st with names := st.names ++ [nm], named := st.named ++ [⟨kx, nx, nax, nlx, ncx, dx, dax, dlx, dcx, sx, rx⟩] } else .inl (.unknown nm)) = NS) := by
        have h := HG.out
        rw [hany] at h
        exact h
      clear HG hany HCON h5
      go_wp2_with fail
      refine hcon.mono ?_
      rintro e w6 ⟨rfl, hb6⟩
      have h6 := H5.out.under hb6
      have hbx6 := (hb6.block w.heap.size (box_lt hbx5)).trans hbx5
      clear hcon hb6 hNb c0 c1 c2 c4 H5 hbx5
      have hNb := h6.box
      unfold bdO at hNb
      have c0 := box_cell hNb 0
      simp only [List.getElem?_toArray, List.getElem?_cons_zero] at c0
      have hkc := kind_any ps _ N 3 w6 (HV.out.below h6.below) c0
      have H6 := Lib.hid h6
      clear h6
      go_wp2_with fail
      refine hkc.mono ?_
      rintro e w7 ⟨rfl, hb7⟩
      have h7 := H6.out.under hb7
      have hbx7 := (hb7.block w.heap.size (box_lt hbx6)).trans hbx6
      clear hkc hb7 hNb c0 H6 hbx6
      have hNb := h7.box
      unfold bdO at hNb
      have c1 := box_cell hNb 1
      have c4 := box_cell hNb 4
      have c5 := box_cell hNb 5
      simp only [List.getElem?_toArray, List.getElem?_cons_zero, List.getElem?_cons_succ] at c1 c4 c5
      cases hp : ps.findIdx? fun p => p.k == 3 with
      | none =>
        have HR : Hid (NS = .inl (.unknown nm)) := by
          unfold Hid
          rw [← HG2.out, if_neg]
          unfold hasPairs
          rw [← List.findIdx?_isSome, hp]; simp
        have hbw := h7.below
        clear HG2 hp h7 hNb
        unfold optI
        go_wp2
        go_ret
        exact .inl ⟨.unknown nm, HR.out, rfl, hbw⟩
      | some j =>
        have HR : Hid (NS = .inr { st with names := st.names ++ [nm], named := st.named ++ [⟨kx, nx, nax, nlx, ncx, dx, dax, dlx, dcx, sx, rx⟩] }) := by
          unfold Hid
          rw [← HG2.out, if_pos]
          unfold hasPairs
          rw [← List.findIdx?_isSome, hp]; rfl
        have H7 := Lib.hid h7
        clear HG2 hp h7
        unfold optI
        simp only
        have x0 := box_cell hbx7 0
        have x1 := box_cell hbx7 1
        have x2 := box_cell hbx7 2
        have x3 := box_cell hbx7 3
        have x4 := box_cell hbx7 4
        have x5 := box_cell hbx7 5
        have x6 := box_cell hbx7 6
        simp only [List.getElem?_toArray, List.getElem?_cons_zero, List.getElem?_cons_succ] at x0 x1 x2 x3 x4 x5 x6
        have hV0 := box_lt hbx7
        have hNl := box_lt hNb
        obtain ⟨na, nc, rfl⟩ := own_isSlice H7.out.names
        obtain ⟨ma, mc, rfl⟩ := own_isSlice H7.out.named
        have k4 := World.new_ne w7 ⟨N, 4, none⟩ c4
        have k5 := World.new_ne w7 ⟨w.heap.size, 0, none⟩ x0
        generalize w.heap.size = V0 at *
        have f4 := box_frozen hNb 4
        have f5 := box_frozen hNb 5
        have hnN : (Value.slice na st.names.length nc).ownBlock ≠ some N := own_box H7.out.names hNb (by decide)
        have hmN : (Value.slice ma st.named.length mc).ownBlock ≠ some N := own_box H7.out.named hNb (by decide)
        have hnV : (Value.slice na st.names.length nc).ownBlock ≠ some V0 := own_box H7.out.names hbx7 (by decide)
        have hmV : (Value.slice ma st.named.length mc).ownBlock ≠ some V0 := fun e => Nat.lt_irrefl _ (HMW.out _ e)
        have hnm7 : ∀ q, (Value.slice na st.names.length nc).ownBlock = some q → q < w7.heap.size := fun q hq => (H7.out.names.lt q hq).2
        have hB7 := H7.out.below.size
        obtain ⟨iS, hiS, hs0, hs1, hs2⟩ := info_parts infoStr
        obtain ⟨iV, hiV, hv0, hv1, hv2⟩ := info_parts infoVal
        have hmk := own_apart H7.out.named H7.out.names (by decide)
        clear HV c1
        have hC0 : NC N V0 (.slice na st.names.length nc) (.slice ma st.named.length mc) kx nx nax nlx ncx dx dax dlx dcx sx rx w7.drew := ⟨c4, c5, x0, x1, x2, x3, x4, x5, x6⟩
        go_wp2
        refine wp_region_noPanic ?_
        refine wp_region_L (S := fun L W => L.getD 21 false = false → NC N V0 (.slice na st.names.length nc) (.slice ma st.named.length mc) kx nx nax nlx ncx dx dax dlx dcx sx rx W) (by kernel_rfl) ?_
        refine wpAnyL_take (T := fun _ => True) (i := 0) (v := ?vv0) rfl (by kernel_rfl) (by kernel_rfl) (by kernel_rfl) (fun _ _ _ h => h) (fun L W => by rw [getD_put_ne L (show 0 ≠ 21 by decide)]) (fun _ _ _ _ _ => trivial) (Closed.of_B (by kernel_rfl)) (Or.inl ⟨by rfl, ?hy0⟩) (fun _ => hC0) ?rest0
        case hy0 => (intro w _; go_simp; with_reducible rfl)
        refine wpAnyL_take (T := fun _ => True) (i := 1) (v := ?vv1) rfl (by kernel_rfl) (by kernel_rfl) (by kernel_rfl) (fun _ _ _ h => h) (fun L W => by rw [getD_put_ne L (show 1 ≠ 21 by decide)]) (fun _ _ _ _ _ => trivial) (Closed.of_B (by kernel_rfl)) (Or.inl ⟨by rfl, ?hy1⟩) (fun _ => hC0) ?rest1
        case hy1 => (intro w _; go_simp; with_reducible rfl)
        refine wpAnyL_take (T := fun _ => True) (i := 2) (v := ?vv2) rfl (by kernel_rfl) (by kernel_rfl) (by kernel_rfl) (fun _ _ _ h => h) (fun L W => by rw [getD_put_ne L (show 2 ≠ 21 by decide)]) (fun _ _ _ _ _ => trivial) (Closed.of_B (by kernel_rfl)) (Or.inl ⟨by rfl, ?hy2⟩) (fun _ => hC0) ?rest2
        case hy2 => (intro w _; go_simp; with_reducible rfl)
        refine wpAnyL_take (T := fun _ => True) (i := 3) (v := ?vv3) rfl (by kernel_rfl) (by kernel_rfl) (by kernel_rfl) (fun _ _ _ h => h) (fun L W => by rw [getD_put_ne L (show 3 ≠ 21 by decide)]) (fun _ _ _ _ _ => trivial) (Closed.of_B (by kernel_rfl)) (Or.inl ⟨by rfl, ?hy3⟩) (fun _ => hC0) ?rest3
        case hy3 => (intro w _; go_simp; with_reducible rfl)
        refine wpAnyL_take (T := fun _ => True) (i := 4) (v := ?vv4) rfl (by kernel_rfl) (by kernel_rfl) (by kernel_rfl) (fun _ _ _ h => h) (fun L W => by rw [getD_put_ne L (show 4 ≠ 21 by decide)]) (fun _ _ _ _ _ => trivial) (Closed.of_B (by kernel_rfl)) (Or.inl ⟨by rfl, ?hy4⟩) (fun _ => hC0) ?rest4
        case hy4 => (intro w _; go_simp; with_reducible rfl)
        refine wpAnyL_take (T := fun _ => True) (i := 5) (v := ?vv5) rfl (by kernel_rfl) (by kernel_rfl) (by kernel_rfl) (fun _ _ _ h => h) (fun L W => by rw [getD_put_ne L (show 5 ≠ 21 by decide)]) (fun _ _ _ _ _ => trivial) (Closed.of_B (by kernel_rfl)) (Or.inl ⟨by rfl, ?hy5⟩) (fun _ => hC0) ?rest5
        case hy5 => (intro w _; go_simp; with_reducible rfl)
        refine wpAnyL_take (T := NC N V0 (.slice na st.names.length nc) (.slice ma st.named.length mc) kx nx nax nlx ncx dx dax dlx dcx sx rx) (i := 6) (v := ?vv6) rfl (by kernel_rfl) (by kernel_rfl) (by kernel_rfl) (fun _ _ _ h => h) (fun L W => by rw [getD_put_ne L (show 6 ≠ 21 by decide)]) (fun L W hcl hl hS => hS (hcl.notYet (by kernel_rfl) (getD_false hl))) (Closed.of_B (by kernel_rfl)) (Or.inl ⟨by rfl, ?hy6⟩) (fun _ => hC0) ?rest6
        case hy6 => (intro W hW; obtain ⟨m4, m5, m0, m1, m2, m3, m6, m7, m8⟩ := hW; go_simp; with_reducible rfl)
        refine wpAnyL_take (T := fun _ => True) (i := 7) (v := ?vv7) rfl (by kernel_rfl) (by kernel_rfl) (by kernel_rfl) (fun _ _ _ h => h) (fun L W => by rw [getD_put_ne L (show 7 ≠ 21 by decide)]) (fun _ _ _ _ _ => trivial) (Closed.of_B (by kernel_rfl)) (Or.inl ⟨by rfl, ?hy7⟩) (fun _ => hC0) ?rest7
        case hy7 => (intro w _; go_simp; with_reducible rfl)
        refine wpAnyL_take (T := fun _ => True) (i := 10) (v := ?vv10) rfl (by kernel_rfl) (by kernel_rfl) (by kernel_rfl) (fun _ _ _ h => h) (fun L W => by rw [getD_put_ne L (show 10 ≠ 21 by decide)]) (fun _ _ _ _ _ => trivial) (Closed.of_B (by kernel_rfl)) (Or.inl ⟨by rfl, ?hy10⟩) (fun _ => hC0) ?rest10
        case hy10 => (intro w _; go_simp; with_reducible rfl)
        refine wpAnyL_take (T := fun _ => True) (i := 11) (v := ?vv11) rfl (by kernel_rfl) (by kernel_rfl) (by kernel_rfl) (fun _ _ _ h => h) (fun L W => by rw [getD_put_ne L (show 11 ≠ 21 by decide)]) (fun _ _ _ _ _ => trivial) (Closed.of_B (by kernel_rfl)) (Or.inl ⟨by rfl, ?hy11⟩) (fun _ => hC0) ?rest11
        case hy11 => (intro w _; go_simp; with_reducible rfl)
        refine wpAnyL_take (T := fun _ => True) (i := 12) (v := ?vv12) rfl (by kernel_rfl) (by kernel_rfl) (by kernel_rfl) (fun _ _ _ h => h) (fun L W => by rw [getD_put_ne L (show 12 ≠ 21 by decide)]) (fun _ _ _ _ _ => trivial) (Closed.of_B (by kernel_rfl)) (Or.inl ⟨by rfl, ?hy12⟩) (fun _ => hC0) ?rest12
        case hy12 => (intro w _; go_simp; with_reducible rfl)
        refine wpAnyL_take (T := fun _ => True) (i := 13) (v := ?vv13) rfl (by kernel_rfl) (by kernel_rfl) (by kernel_rfl) (fun _ _ _ h => h) (fun L W => by rw [getD_put_ne L (show 13 ≠ 21 by decide)]) (fun _ _ _ _ _ => trivial) (Closed.of_B (by kernel_rfl)) (Or.inl ⟨by rfl, ?hy13⟩) (fun _ => hC0) ?rest13
        case hy13 => (intro w _; go_simp; with_reducible rfl)
        refine wpAnyL_take (T := NC N V0 (.slice na st.names.length nc) (.slice ma st.named.length mc) kx nx nax nlx ncx dx dax dlx dcx sx rx) (i := 14) (v := ?vv14) rfl (by kernel_rfl) (by kernel_rfl) (by kernel_rfl) (fun _ _ _ h => h) (fun L W => by rw [getD_put_ne L (show 14 ≠ 21 by decide)]) (fun L W hcl hl hS => hS (hcl.notYet (by kernel_rfl) (getD_false hl))) (Closed.of_B (by kernel_rfl)) (Or.inl ⟨by rfl, ?hy14⟩) (fun _ => hC0) ?rest14
        case hy14 => (intro W hW; obtain ⟨m4, m5, m0, m1, m2, m3, m6, m7, m8⟩ := hW; go_simp; with_reducible rfl)
        refine wpAnyL_take (T := NC N V0 (.slice na st.names.length nc) (.slice ma st.named.length mc) kx nx nax nlx ncx dx dax dlx dcx sx rx) (i := 15) (v := ?vv15) rfl (by kernel_rfl) (by kernel_rfl) (by kernel_rfl) (fun _ _ _ h => h) (fun L W => by rw [getD_put_ne L (show 15 ≠ 21 by decide)]) (fun L W hcl hl hS => hS (hcl.notYet (i := 17) (by kernel_rfl) (hcl.notYet (i := 16) (by kernel_rfl) (hcl.notYet (by kernel_rfl) (getD_false hl))))) (Closed.of_B (by kernel_rfl)) (Or.inl ⟨by rfl, ?hy15⟩) (fun _ => hC0) ?rest15
        case hy15 => (intro W hW; obtain ⟨m4, m5, m0, m1, m2, m3, m6, m7, m8⟩ := hW; go_simp; with_reducible rfl)
        refine wpAnyL_ready (rs := [8, 16]) (by kernel_rfl) (by simp) ?_
        refine AllL.cons rfl (by rfl) (fun K hK => ?_) (AllL.cons rfl (by rfl) (fun K hK => ?_) AllL.nil)
        · go_simp
          refine hK _ _ ⟨fun _ => hC0.alloc _, ?_⟩
          clear hK K
          have hC8 := hC0.alloc (.cells #[.string nm] 9)
          refine wpAnyL_ready (rs := [9, 16]) (by kernel_rfl) (by simp) ?_
          refine AllL.cons rfl (by rfl) (fun K hK => ?_) (AllL.cons rfl (by rfl) (fun K hK => ?_) AllL.nil)
          · refine wp_append_lies _ _ _ _ (by rfl) w0.heap.size 9 iS _ 1 16 Try.underlying37 hiS hs0 hs1 hs2 rfl (by omega) (.slice na st.names.length nc) st.names.length (st.names.map Value.string) (by rfl) ((H7.out.names.alloc _).drew) ⟨w7.heap.size, 0, none⟩ 1 1 [.string nm] (by rfl) (by rfl) (World.news_of_block (cs := #[.string nm]) (t := 9) (fr := (0, 0)) (heap_alloc_new w7 _)) (by simp [Value.oneCell']) (by omega) (by rw [maxLen_eq']; omega) (by omega) (by simp; omega) (w7.heap.size + 1) (by simp) ?_
            intro g1 cap1 w1 hown1 hgrow1 hat1 hlt1
            have hC1 := hC8.grown hgrow1 hnN hnV
            refine hK _ _ ⟨fun _ => hC1, ?_⟩
            clear hK K
            refine wpAnyL_ready (rs := [16]) (by kernel_rfl) (by simp) ?_
            refine AllL.cons rfl (by rfl) (fun K hK => ?_) AllL.nil
            go_simp
            refine hK _ _ ⟨fun _ => hC1.alloc _, ?_⟩
            clear hK K
            refine wpAnyL_ready (rs := [17]) (by kernel_rfl) (by simp) ?_
            refine AllL.cons rfl (by rfl) (fun K hK => ?_) AllL.nil
            refine wp_append_lies _ _ _ _ (by rfl) w0.heap.size 58 iV _ 7 96 Try.underlying36 hiV hv0 hv1 hv2 rfl (by omega) (.slice ma st.named.length mc) st.named.length (st.named.flatMap valC) (by rfl) ((((H7.out.named.alloc _).drew).kept hgrow1 hmk).alloc _) ⟨w1.heap.size, 0, none⟩ 1 1 [.int .i64 kx, .bool nx, .slice nax nlx ncx, .bool dx, .slice dax dlx dcx, .string sx, .int .i64 rx] (by rfl) (by rfl) (World.news_of_block (cs := #[.int .i64 kx, .bool nx, .slice nax nlx ncx, .bool dx, .slice dax dlx dcx, .string sx, .int .i64 rx]) (t := 58) (fr := (0, 0)) (heap_alloc_new w1 _)) (by simp [Value.oneCell']) (by omega) (by rw [maxLen_eq']; omega) (by omega) (by have := hgrow1.size; simp at this ⊢; omega) (w1.heap.size + 1) (by simp) ?_
            intro g2 cap2 w2 hown2 hgrow2 hat2 hlt2
            have hC2 := (hC1.alloc _).grown hgrow2 hmN hmV
            refine hK _ _ ⟨fun _ => hC2, ?_⟩
            clear hK K
            have hBel1 : Below w0.heap.size w7 w1 := (((Below.refl _ w7).alloc hB7 _).drew).grown hgrow1 (by simp; omega) (fun q hq => (H7.out.names.lt q hq).1)
            have hz1 := hBel1.size
            have hown1' := hown1.alloc (.cells #[.int .i64 kx, .bool nx, .slice nax nlx ncx, .bool dx, .slice dax dlx dcx, .string sx, .int .i64 rx] 58)
            have hBel2 : Below w0.heap.size w7 w2 := ((hBel1.alloc (by omega) _)).grown hgrow2 (by simp; omega) (fun q hq => (H7.out.named.lt q hq).1)
            have hmv1 := ((((H7.out.named.alloc _).drew).kept hgrow1 hmk).alloc (.cells #[.int .i64 kx, .bool nx, .slice nax nlx ncx, .bool dx, .slice dax dlx dcx, .string sx, .int .i64 rx] 58))
            have hn2 := hown1'.kept hgrow2 (own_apart hown1' hmv1 (by decide))
            have hfar : ∀ k, k < w7.heap.size → (Value.slice na st.names.length nc).ownBlock ≠ some k → (Value.slice ma st.named.length mc).ownBlock ≠ some k → w2.heap[k]? = w7.heap[k]? := fun k hk h1 h2 => (hgrow2.block k (by simp; omega) (Ne.symm h2)).trans ((Below.heap_alloc _ _ _ (by omega)).trans ((hgrow1.block k (by simp; omega) (Ne.symm h1)).trans (Below.heap_alloc _ _ _ hk)))
            have hP := H7.out.pushed (x := ⟨kx, nx, nax, nlx, ncx, dx, dax, dlx, dcx, sx, rx⟩) hfar hBel2 hn2 hown2 (fun k hk => by simp only [Value.ownBlock, Option.some.injEq] at hk; subst hk; rcases hat2 with h1 | h1; exact .inl h1; exact .inr (by omega))
            have hb2 := (hfar N hNl hnN hmN).trans hNb
            have j4 := box_cell hb2 4
            have j5 := box_cell hb2 5
            simp only [List.getElem?_toArray, List.getElem?_cons_zero, List.getElem?_cons_succ] at j4 j5
            have l4 := box_frozen hb2 4
            have l5 := box_frozen hb2 5
            refine wpAnyL_ready (rs := [18]) (by kernel_rfl) (by simp) ?_
            refine AllL.cons rfl (by rfl) (fun K hK => ?_) AllL.nil
            go_simp
            refine hK _ _ ⟨fun _ => hC2, ?_⟩
            clear hK K
            refine wpAnyL_ready (rs := [19]) (by kernel_rfl) (by simp) ?_
            refine AllL.cons rfl (by rfl) (fun K hK => ?_) AllL.nil
            go_simp
            refine hK _ _ ⟨fun _ => hC2, ?_⟩
            clear hK K
            refine wpAnyL_ready (rs := [20]) (by kernel_rfl) (by simp) ?_
            refine AllL.cons rfl (by rfl) (fun K hK => ?_) AllL.nil
            go_simp
            refine hK _ _ ⟨fun _ => hC2, ?_⟩
            clear hK K
            refine wpAnyL_ready (rs := [21]) (by kernel_rfl) (by simp) ?_
            refine AllL.cons rfl (by rfl) (fun K hK => ?_) AllL.nil
            go_simp
            refine hK _ _ ⟨fun h => ?_, ?_⟩
            · exact Bool.noConfusion ((show _ = true by kernel_rfl).symm.trans h)
            clear hK K
            refine wpAnyL_ready (rs := [22]) (by kernel_rfl) (by simp) ?_
            refine AllL.cons rfl (by rfl) (fun K hK => ?_) AllL.nil
            go_simp
            refine hK _ _ ⟨fun h => ?_, ?_⟩
            · exact Bool.noConfusion ((show _ = true by kernel_rfl).symm.trans h)
            clear hK K
            refine wpAnyL_ready (rs := [23]) (by kernel_rfl) (by simp) ?_
            refine AllL.cons rfl (by rfl) (fun K hK => ?_) AllL.nil
            go_simp
            refine hK _ _ ⟨fun h => ?_, ?_⟩
            · exact Bool.noConfusion ((show _ = true by kernel_rfl).symm.trans h)
            clear hK K
            refine wpAnyL_ready (rs := [24]) (by kernel_rfl) (by simp) ?_
            refine AllL.cons rfl (by rfl) (fun K hK => ?_) AllL.nil
            go_simp
            refine hK _ _ ⟨fun h => ?_, ?_⟩
            · exact Bool.noConfusion ((show _ = true by kernel_rfl).symm.trans h)
            clear hK K
            refine wpAnyL_ready (rs := [25]) (by kernel_rfl) (by simp) ?_
            refine AllL.cons rfl (by rfl) (fun K hK => ?_) AllL.nil
            go_simp
            refine hK _ _ ⟨fun h => ?_, ?_⟩
            · exact Bool.noConfusion ((show _ = true by kernel_rfl).symm.trans h)
            clear hK K
            refine wpAnyL_done (by kernel_rfl) ?_ _
            refine NoPanic.normal ?_
            go_wp2
            go_ret
            exact .inr ⟨_, _, _, HR.out, rfl, hP⟩
          · go_simp
            refine hK _ _ ⟨fun _ => hC8.alloc _, ?_⟩
            clear hK K
            refine wpAnyL_ready (rs := [9]) (by kernel_rfl) (by simp) ?_
            refine AllL.cons rfl (by rfl) (fun K hK => ?_) AllL.nil
            refine wp_append_lies _ _ _ _ (by rfl) w0.heap.size 9 iS _ 1 16 Try.underlying37 hiS hs0 hs1 hs2 rfl (by omega) (.slice na st.names.length nc) st.names.length (st.names.map Value.string) (by rfl) (((H7.out.names.alloc _).alloc _).drew) ⟨w7.heap.size, 0, none⟩ 1 1 [.string nm] (by rfl) (by rfl) (World.news_of_block (cs := #[.string nm]) (t := 9) (fr := (0, 0)) (alloc2_first w7 _ _)) (by simp [Value.oneCell']) (by omega) (by rw [maxLen_eq']; omega) (by omega) (by simp; omega) (w7.heap.size + 1 + 1) (by simp) ?_
            intro g1 cap1 w1 hown1 hgrow1 hat1 hlt1
            have hC1 := (hC8.alloc _).grown hgrow1 hnN hnV
            refine hK _ _ ⟨fun _ => hC1, ?_⟩
            clear hK K
            refine wpAnyL_ready (rs := [17]) (by kernel_rfl) (by simp) ?_
            refine AllL.cons rfl (by rfl) (fun K hK => ?_) AllL.nil
            refine wp_append_lies _ _ _ _ (by rfl) w0.heap.size 58 iV _ 7 96 Try.underlying36 hiV hv0 hv1 hv2 rfl (by omega) (.slice ma st.named.length mc) st.named.length (st.named.flatMap valC) (by rfl) ((((H7.out.named.alloc _).alloc _).drew).kept hgrow1 hmk) ⟨w7.heap.size + 1, 0, none⟩ 1 1 [.int .i64 kx, .bool nx, .slice nax nlx ncx, .bool dx, .slice dax dlx dcx, .string sx, .int .i64 rx] (by rfl) (by rfl) (World.news_of_block (cs := #[.int .i64 kx, .bool nx, .slice nax nlx ncx, .bool dx, .slice dax dlx dcx, .string sx, .int .i64 rx]) (t := 58) (fr := (0, 0)) (kept_block hgrow1 hnm7 (Nat.le_succ _) (alloc2_second w7 _ _))) (by simp [Value.oneCell']) (by omega) (by rw [maxLen_eq']; omega) (by omega) (by have := hgrow1.size; simp at this ⊢; omega) (w1.heap.size) (by simp) ?_
            intro g2 cap2 w2 hown2 hgrow2 hat2 hlt2
            have hC2 := hC1.grown hgrow2 hmN hmV
            refine hK _ _ ⟨fun _ => hC2, ?_⟩
            clear hK K
            have hBel1 : Below w0.heap.size w7 w1 := ((((Below.refl _ w7).alloc hB7 _).alloc (by simp; omega) _).drew).grown hgrow1 (by simp; omega) (fun q hq => (H7.out.names.lt q hq).1)
            have hz1 := hBel1.size
            have hBel2 : Below w0.heap.size w7 w2 := hBel1.grown hgrow2 (by omega) (fun q hq => (H7.out.named.lt q hq).1)
            have hmv1 := ((((H7.out.named.alloc _).alloc _).drew).kept hgrow1 hmk)
            have hn2 := hown1.kept hgrow2 (own_apart hown1 hmv1 (by decide))
            have hfar : ∀ k, k < w7.heap.size → (Value.slice na st.names.length nc).ownBlock ≠ some k → (Value.slice ma st.named.length mc).ownBlock ≠ some k → w2.heap[k]? = w7.heap[k]? := fun k hk h1 h2 => (hgrow2.block k (by omega) (Ne.symm h2)).trans ((hgrow1.block k (by simp; omega) (Ne.symm h1)).trans ((Below.heap_alloc _ _ _ (by simp; omega)).trans (Below.heap_alloc _ _ _ hk)))
            have hP := H7.out.pushed (x := ⟨kx, nx, nax, nlx, ncx, dx, dax, dlx, dcx, sx, rx⟩) hfar hBel2 hn2 hown2 (fun k hk => by simp only [Value.ownBlock, Option.some.injEq] at hk; subst hk; rcases hat2 with h1 | h1; exact .inl h1; exact .inr (by omega))
            have hb2 := (hfar N hNl hnN hmN).trans hNb
            have j4 := box_cell hb2 4
            have j5 := box_cell hb2 5
            simp only [List.getElem?_toArray, List.getElem?_cons_zero, List.getElem?_cons_succ] at j4 j5
            have l4 := box_frozen hb2 4
            have l5 := box_frozen hb2 5
            refine wpAnyL_ready (rs := [18]) (by kernel_rfl) (by simp) ?_
            refine AllL.cons rfl (by rfl) (fun K hK => ?_) AllL.nil
            go_simp
            refine hK _ _ ⟨fun _ => hC2, ?_⟩
            clear hK K
            refine wpAnyL_ready (rs := [19]) (by kernel_rfl) (by simp) ?_
            refine AllL.cons rfl (by rfl) (fun K hK => ?_) AllL.nil
            go_simp
            refine hK _ _ ⟨fun _ => hC2, ?_⟩
            clear hK K
            refine wpAnyL_ready (rs := [20]) (by kernel_rfl) (by simp) ?_
            refine AllL.cons rfl (by rfl) (fun K hK => ?_) AllL.nil
            go_simp
            refine hK _ _ ⟨fun _ => hC2, ?_⟩
            clear hK K
            refine wpAnyL_ready (rs := [21]) (by kernel_rfl) (by simp) ?_
            refine AllL.cons rfl (by rfl) (fun K hK => ?_) AllL.nil
            go_simp
            refine hK _ _ ⟨fun h => ?_, ?_⟩
            · exact Bool.noConfusion ((show _ = true by kernel_rfl).symm.trans h)
            clear hK K
            refine wpAnyL_ready (rs := [22]) (by kernel_rfl) (by simp) ?_
            refine AllL.cons rfl (by rfl) (fun K hK => ?_) AllL.nil
            go_simp
            refine hK _ _ ⟨fun h => ?_, ?_⟩
            · exact Bool.noConfusion ((show _ = true by kernel_rfl).symm.trans h)
            clear hK K
            refine wpAnyL_ready (rs := [23]) (by kernel_rfl) (by simp) ?_
            refine AllL.cons rfl (by rfl) (fun K hK => ?_) AllL.nil
            go_simp
            refine hK _ _ ⟨fun h => ?_, ?_⟩
            · exact Bool.noConfusion ((show _ = true by kernel_rfl).symm.trans h)
            clear hK K
            refine wpAnyL_ready (rs := [24]) (by kernel_rfl) (by simp) ?_
            refine AllL.cons rfl (by rfl) (fun K hK => ?_) AllL.nil
            go_simp
            refine hK _ _ ⟨fun h => ?_, ?_⟩
            · exact Bool.noConfusion ((show _ = true by kernel_rfl).symm.trans h)
            clear hK K
            refine wpAnyL_ready (rs := [25]) (by kernel_rfl) (by simp) ?_
            refine AllL.cons rfl (by rfl) (fun K hK => ?_) AllL.nil
            go_simp
            refine hK _ _ ⟨fun h => ?_, ?_⟩
            · exact Bool.noConfusion ((show _ = true by kernel_rfl).symm.trans h)
            clear hK K
            refine wpAnyL_done (by kernel_rfl) ?_ _
            refine NoPanic.normal ?_
            go_wp2
            go_ret
            exact .inr ⟨_, _, _, HR.out, rfl, hP⟩
        · go_simp
          refine hK _ _ ⟨fun _ => hC0.alloc _, ?_⟩
          clear hK K
          have hC8 := hC0.alloc (valO ⟨kx, nx, nax, nlx, ncx, dx, dax, dlx, dcx, sx, rx⟩)
          refine wpAnyL_ready (rs := [8]) (by kernel_rfl) (by simp) ?_
          refine AllL.cons rfl (by rfl) (fun K hK => ?_) AllL.nil
          go_simp
          refine hK _ _ ⟨fun _ => hC8.alloc _, ?_⟩
          clear hK K
          refine wpAnyL_ready (rs := [9]) (by kernel_rfl) (by simp) ?_
          refine AllL.cons rfl (by rfl) (fun K hK => ?_) AllL.nil
          refine wp_append_lies _ _ _ _ (by rfl) w0.heap.size 9 iS _ 1 16 Try.underlying37 hiS hs0 hs1 hs2 rfl (by omega) (.slice na st.names.length nc) st.names.length (st.names.map Value.string) (by rfl) (((H7.out.names.alloc _).alloc _).drew) ⟨w7.heap.size + 1, 0, none⟩ 1 1 [.string nm] (by rfl) (by rfl) (World.news_of_block (cs := #[.string nm]) (t := 9) (fr := (0, 0)) (alloc2_second w7 _ _)) (by simp [Value.oneCell']) (by omega) (by rw [maxLen_eq']; omega) (by omega) (by simp; omega) (w7.heap.size + 1 + 1) (by simp) ?_
          intro g1 cap1 w1 hown1 hgrow1 hat1 hlt1
          have hC1 := (hC8.alloc _).grown hgrow1 hnN hnV
          refine hK _ _ ⟨fun _ => hC1, ?_⟩
          clear hK K
          refine wpAnyL_ready (rs := [17]) (by kernel_rfl) (by simp) ?_
          refine AllL.cons rfl (by rfl) (fun K hK => ?_) AllL.nil
          refine wp_append_lies _ _ _ _ (by rfl) w0.heap.size 58 iV _ 7 96 Try.underlying36 hiV hv0 hv1 hv2 rfl (by omega) (.slice ma st.named.length mc) st.named.length (st.named.flatMap valC) (by rfl) ((((H7.out.named.alloc _).alloc _).drew).kept hgrow1 hmk) ⟨w7.heap.size, 0, none⟩ 1 1 [.int .i64 kx, .bool nx, .slice nax nlx ncx, .bool dx, .slice dax dlx dcx, .string sx, .int .i64 rx] (by rfl) (by rfl) (World.news_of_block (cs := #[.int .i64 kx, .bool nx, .slice nax nlx ncx, .bool dx, .slice dax dlx dcx, .string sx, .int .i64 rx]) (t := 58) (fr := (0, 0)) (kept_block hgrow1 hnm7 (Nat.le_refl _) (alloc2_first w7 _ _))) (by simp [Value.oneCell']) (by omega) (by rw [maxLen_eq']; omega) (by omega) (by have := hgrow1.size; simp at this ⊢; omega) (w1.heap.size) (by simp) ?_
          intro g2 cap2 w2 hown2 hgrow2 hat2 hlt2
          have hC2 := hC1.grown hgrow2 hmN hmV
          refine hK _ _ ⟨fun _ => hC2, ?_⟩
          clear hK K
          have hBel1 : Below w0.heap.size w7 w1 := ((((Below.refl _ w7).alloc hB7 _).alloc (by simp; omega) _).drew).grown hgrow1 (by simp; omega) (fun q hq => (H7.out.names.lt q hq).1)
          have hz1 := hBel1.size
          have hBel2 : Below w0.heap.size w7 w2 := hBel1.grown hgrow2 (by omega) (fun q hq => (H7.out.named.lt q hq).1)
          have hmv1 := ((((H7.out.named.alloc _).alloc _).drew).kept hgrow1 hmk)
          have hn2 := hown1.kept hgrow2 (own_apart hown1 hmv1 (by decide))
          have hfar : ∀ k, k < w7.heap.size → (Value.slice na st.names.length nc).ownBlock ≠ some k → (Value.slice ma st.named.length mc).ownBlock ≠ some k → w2.heap[k]? = w7.heap[k]? := fun k hk h1 h2 => (hgrow2.block k (by omega) (Ne.symm h2)).trans ((hgrow1.block k (by simp; omega) (Ne.symm h1)).trans ((Below.heap_alloc _ _ _ (by simp; omega)).trans (Below.heap_alloc _ _ _ hk)))
          have hP := H7.out.pushed (x := ⟨kx, nx, nax, nlx, ncx, dx, dax, dlx, dcx, sx, rx⟩) hfar hBel2 hn2 hown2 (fun k hk => by simp only [Value.ownBlock, Option.some.injEq] at hk; subst hk; rcases hat2 with h1 | h1; exact .inl h1; exact .inr (by omega))
          have hb2 := (hfar N hNl hnN hmN).trans hNb
          have j4 := box_cell hb2 4
          have j5 := box_cell hb2 5
          simp only [List.getElem?_toArray, List.getElem?_cons_zero, List.getElem?_cons_succ] at j4 j5
          have l4 := box_frozen hb2 4
          have l5 := box_frozen hb2 5
          refine wpAnyL_ready (rs := [18]) (by kernel_rfl) (by simp) ?_
          refine AllL.cons rfl (by rfl) (fun K hK => ?_) AllL.nil
          go_simp
          refine hK _ _ ⟨fun _ => hC2, ?_⟩
          clear hK K
          refine wpAnyL_ready (rs := [19]) (by kernel_rfl) (by simp) ?_
          refine AllL.cons rfl (by rfl) (fun K hK => ?_) AllL.nil
          go_simp
          refine hK _ _ ⟨fun _ => hC2, ?_⟩
          clear hK K
          refine wpAnyL_ready (rs := [20]) (by kernel_rfl) (by simp) ?_
          refine AllL.cons rfl (by rfl) (fun K hK => ?_) AllL.nil
          go_simp
          refine hK _ _ ⟨fun _ => hC2, ?_⟩
          clear hK K
          refine wpAnyL_ready (rs := [21]) (by kernel_rfl) (by simp) ?_
          refine AllL.cons rfl (by rfl) (fun K hK => ?_) AllL.nil
          go_simp
          refine hK _ _ ⟨fun h => ?_, ?_⟩
          · exact Bool.noConfusion ((show _ = true by kernel_rfl).symm.trans h)
          clear hK K
          refine wpAnyL_ready (rs := [22]) (by kernel_rfl) (by simp) ?_
          refine AllL.cons rfl (by rfl) (fun K hK => ?_) AllL.nil
          go_simp
          refine hK _ _ ⟨fun h => ?_, ?_⟩
          · exact Bool.noConfusion ((show _ = true by kernel_rfl).symm.trans h)
          clear hK K
          refine wpAnyL_ready (rs := [23]) (by kernel_rfl) (by simp) ?_
          refine AllL.cons rfl (by rfl) (fun K hK => ?_) AllL.nil
          go_simp
          refine hK _ _ ⟨fun h => ?_, ?_⟩
          · exact Bool.noConfusion ((show _ = true by kernel_rfl).symm.trans h)
          clear hK K
          refine wpAnyL_ready (rs := [24]) (by kernel_rfl) (by simp) ?_
          refine AllL.cons rfl (by rfl) (fun K hK => ?_) AllL.nil
          go_simp
          refine hK _ _ ⟨fun h => ?_, ?_⟩
          · exact Bool.noConfusion ((show _ = true by kernel_rfl).symm.trans h)
          clear hK K
          refine wpAnyL_ready (rs := [25]) (by kernel_rfl) (by simp) ?_
          refine AllL.cons rfl (by rfl) (fun K hK => ?_) AllL.nil
          go_simp
          refine hK _ _ ⟨fun h => ?_, ?_⟩
          · exact Bool.noConfusion ((show _ = true by kernel_rfl).symm.trans h)
          clear hK K
          refine wpAnyL_done (by kernel_rfl) ?_ _
          refine NoPanic.normal ?_
          go_wp2
          go_ret
          exact .inr ⟨_, _, _, HR.out, rfl, hP⟩
  | some k =>
    obtain ⟨hk, -, -⟩ := at_some hat
    have hkv : k < st.vals.length := by rw [h5.len]; exact hk
    have HG : Hid ((if isUV (st.vals.getD k unbV) = false ∨ st.names.any (sameN nm) = true then .inl (.two nm) else .inr { st with vals := st.vals.set k ⟨kx, nx, nax, nlx, ncx, dx, dax, dlx, dcx, sx, rx⟩ }) = NS) := by
      have h := HGS.out
      rw [hat] at h
      exact h
    clear HGS hat
    unfold optI
    simp only
    obtain ⟨vg, vc, rfl, hvg⟩ := own_form h5.vals (by omega)
    obtain ⟨g', hgg, y0, y1, y2, y3, y4, y5, y6⟩ := own_cells7v h5.vals h5.len hkv
    simp only [Value.ownBlock, Option.some.injEq] at hgg
    subst hgg
    have HUn := Lib.hid (show isUV (st.vals.getD k unbV) = (st.vals[k].k == 9) by rw [isUV_at hkv]; rfl)
    generalize hgx : st.vals[k] = x at *
    clear hgx
    obtain ⟨ky, ny, nay, nly, ncy, dy, day, dly, dcy, sy, ry⟩ := x
    simp only at y0 y1 y2 y3 y4 y5 y6 HUn
    cases hu : (ky == 9) with
    | false =>
      have hun : (ky != 9) = true := by rw [bne, hu]; rfl
      have HR : Hid (NS = .inl (.two nm)) := by unfold Hid; rw [← HG.out, if_pos (.inl (HUn.out.trans hu))]
      have hbw := h5.below
      clear HG HUn HCON h5 hNb y1 y2 y3 y4 y5 y6
      go_wp2
      go_ret
      exact .inl ⟨.two nm, HR.out, rfl, hbw⟩
    | true =>
      have hun : (ky != 9) = false := by rw [bne, hu]; rfl
      have hcon := HCON.out
      cases hany : st.names.any (sameN nm) with
      | true =>
        rw [hany] at hcon
        have HR : Hid (NS = .inl (.two nm)) := by unfold Hid; rw [← HG.out, if_pos (.inr hany)]
        clear HG hany HCON h5 HUn
        go_wp2_with fail
        refine hcon.mono ?_
        rintro e w6 ⟨rfl, hb6⟩
        have e1 := box_cell ((hb6.block N (box_lt hNb)).trans hNb) 1
        simp only [List.getElem?_toArray, List.getElem?_cons_zero, List.getElem?_cons_succ] at e1
        have hbw := ext_trans H5.out.below hb6
        clear hcon hb6 hNb c0 c1 c2 c4 y0 y1 y2 y3 y4 y5 y6
        go_wp2
        go_ret
        exact .inl ⟨.two nm, HR.out, rfl, hbw⟩
      | false =>
        rw [hany] at hcon
        have HR : Hid (NS = .inr { st with vals := st.vals.set k ⟨kx, nx, nax, nlx, ncx, dx, dax, dlx, dcx, sx, rx⟩ }) := by
          unfold Hid
          rw [← HG.out, if_neg]
          rintro (h | h)
          · rw [HUn.out, hu] at h; cases h
          · rw [hany] at h; cases h
        clear HG hany HCON h5 HUn
        go_wp2_with fail
        refine hcon.mono ?_
        rintro e w6 ⟨rfl, hb6⟩
        have h6 := H5.out.under hb6
        have hbx6 := (hb6.block w.heap.size (box_lt hbx5)).trans hbx5
        clear hcon hb6 hNb c0 c1 c2 c4 y0 y1 y2 y3 y4 y5 y6 H5 hbx5
        have hNb := h6.box
        unfold bdO at hNb
        have c2 := box_cell hNb 2
        simp only [List.getElem?_toArray, List.getElem?_cons_zero, List.getElem?_cons_succ] at c2
        have x0 := box_cell hbx6 0
        have x1 := box_cell hbx6 1
        have x2 := box_cell hbx6 2
        have x3 := box_cell hbx6 3
        have x4 := box_cell hbx6 4
        have x5 := box_cell hbx6 5
        have x6 := box_cell hbx6 6
        simp only [List.getElem?_toArray, List.getElem?_cons_zero, List.getElem?_cons_succ] at x0 x1 x2 x3 x4 x5 x6
        obtain ⟨g', hgg, y0, y1, y2, y3, y4, y5, y6⟩ := own_cells7v h6.vals h6.len hkv
        simp only [Value.ownBlock, Option.some.injEq] at hgg
        subst hgg
        have f0 := h6.vals.frozenAt (k * 7)
        have f1 := h6.vals.frozenAt (k * 7 + 1)
        have f2 := h6.vals.frozenAt (k * 7 + 2)
        have f3 := h6.vals.frozenAt (k * 7 + 3)
        have f4 := h6.vals.frozenAt (k * 7 + 4)
        have f5 := h6.vals.frozenAt (k * 7 + 5)
        have f6 := h6.vals.frozenAt (k * 7 + 6)
        have HSET := Lib.hid (own_set7 h6.vals hkv ⟨kx, nx, nax, nlx, ncx, dx, dax, dlx, dcx, sx, rx⟩)
        simp only at HSET
        have H6 := Lib.hid h6
        clear h6
        generalize hgx : st.vals[k] = x at *
        clear hgx
        go_wp2
        go_region
        obtain ⟨hS1, hS2⟩ := HSET.out
        generalize (((((((w6.setCell ⟨vg, k * 7, none⟩ (.int .i64 kx)).setCell ⟨vg, k * 7 + 1, none⟩ (.bool nx)).setCell ⟨vg, k * 7 + 2, none⟩ (.slice nax nlx ncx)).setCell ⟨vg, k * 7 + 3, none⟩ (.bool dx)).setCell ⟨vg, k * 7 + 4, none⟩ (.slice dax dlx dcx)).setCell ⟨vg, k * 7 + 5, none⟩ (.string sx)).setCell ⟨vg, k * 7 + 6, none⟩ (.int .i64 rx)) = wS at *
        clear HSET y0 y1 y2 y3 y4 y5 y6 f0 f1 f2 f3 f4 f5 f6 x0 x1 x2 x3 x4 x5 x6 c2
        go_wp2
        go_ret
        exact .inr ⟨_, nv, mv, HR.out, rfl, H6.out.stored hS1 hS2⟩
end Go.Proofs.Ytbickehhnkhabaa
