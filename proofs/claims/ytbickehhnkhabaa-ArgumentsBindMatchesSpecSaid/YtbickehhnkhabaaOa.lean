/- The document's binding under way, in memory. -/
import Derived.Test.YtbickehhnkhabaaBd11
import Derived.Test.YtbickehhnkhabaaTw
namespace Go.Proofs.Ytbickehhnkhabaa
open Go.RowKit

/-- Cells that stand. -/
def Cs (l : List (Addr × Value)) (W : World) : Prop := ∀ x ∈ l, W.cell? x.1 = some x.2
theorem Cs.alloc {l : List (Addr × Value)} {W : World} (h : Cs l W) (o : Obj) : Cs l (W.alloc o) := fun x hx => Lib.cell?_alloc_some _ (h x hx)
theorem Cs.grown {l : List (Addr × Value)} {W W' : World} {row : Option Nat} (h : Cs l W) (hg : W.grownBy W' row) (hne : ∀ x ∈ l, some x.1.block ≠ row) : Cs l W' := fun x hx => hg.cell (h x hx) (hne x hx)
theorem Cs.apart {l : List (Addr × Value)} {row : Option Nat} {lo hi : Nat} (hr : ∀ q, row = some q → lo ≤ q ∧ q < hi) (hl : ∀ x ∈ l, x.1.block < lo ∨ hi ≤ x.1.block) : ∀ x ∈ l, some x.1.block ≠ row := fun x hx e => by
  have h1 := hr _ e.symm
  have h2 := hl x hx
  omega

section
variable {ps : List Par} {st : RSt Val} {nm : ByteArray} {x : Val} {r : List (ByteArray × Val)}
theorem refGo_two (h : st.ns.any (sameN nm) = true) : refGo ps st ((nm, x) :: r) = .inl (.two nm) := by
  have h1 : refStep ps st nm x = .inl (.two nm) := by unfold refStep; rw [if_pos h]
  rw [refGo, h1]
theorem refGo_own (h : st.ns.any (sameN nm) = false) (h2 : (ps.any fun p => sameN nm p.s && own p) = true) : refGo ps st ((nm, x) :: r) = refGo ps { st with ns := st.ns ++ [nm], gs := st.gs ++ [x] } r := by
  have h1 : refStep ps st nm x = .inr { st with ns := st.ns ++ [nm], gs := st.gs ++ [x] } := by unfold refStep; rw [if_neg (by rw [h]; simp), if_pos h2]
  rw [refGo, h1]
theorem refGo_pairs (h : st.ns.any (sameN nm) = false) (h2 : (ps.any fun p => sameN nm p.s && own p) = false) (h3 : hasPairs ps = true) : refGo ps st ((nm, x) :: r) = refGo ps ⟨st.ns ++ [nm], st.gs ++ [x], st.names ++ [nm], st.named ++ [x]⟩ r := by
  have h1 : refStep ps st nm x = .inr ⟨st.ns ++ [nm], st.gs ++ [x], st.names ++ [nm], st.named ++ [x]⟩ := by unfold refStep; rw [if_neg (by rw [h]; simp), if_neg (by rw [h2]; simp), if_pos h3]
  rw [refGo, h1]
theorem refGo_unknown (h : st.ns.any (sameN nm) = false) (h2 : (ps.any fun p => sameN nm p.s && own p) = false) (h3 : hasPairs ps = false) : refGo ps st ((nm, x) :: r) = .inl (.unknown nm) := by
  have h1 : refStep ps st nm x = .inl (.unknown nm) := by unfold refStep; rw [if_neg (by rw [h]; simp), if_neg (by rw [h2]; simp), if_neg (by rw [h3]; simp)]
  rw [refGo, h1]
end

structure OAt (w5 w : World) (N : Nat) (v15 v16 rv nv mv : Value) (st : RSt Val) (rest : List Val) : Prop where
  box : w.heap[N]? = some (.cells #[.slice none 0 0, rv, nv, mv] 41 (0, 0))
  base : w5.heap.size ≤ N
  ns : w.ownsRow w5.heap.size 9 1 v15 st.ns.length (st.ns.map Value.string)
  gs : w.ownsRow w5.heap.size 58 7 v16 st.gs.length (st.gs.flatMap valC)
  rest : w.ownsRow w5.heap.size 58 7 rv rest.length (rest.flatMap valC)
  names : w.ownsRow w5.heap.size 9 1 nv st.names.length (st.names.map Value.string)
  named : w.ownsRow w5.heap.size 58 7 mv st.named.length (st.named.flatMap valC)
  d0 : ∀ k, v15.ownBlock = some k → nv.ownBlock ≠ some k
  d1 : ∀ k, v16.ownBlock = some k → rv.ownBlock ≠ some k
  d2 : ∀ k, v16.ownBlock = some k → mv.ownBlock ≠ some k
  d3 : ∀ k, rv.ownBlock = some k → mv.ownBlock ≠ some k
  below : Below w5.heap.size w5 w

theorem OAt.under {w5 w w' : World} {N : Nat} {v15 v16 rv nv mv : Value} {st : RSt Val} {rest : List Val} (h : OAt w5 w N v15 v16 rv nv mv st rest) (hb : Below w.heap.size w w') : OAt w5 w' N v15 v16 rv nv mv st rest :=
  ⟨(hb.block N (box_lt h.box)).trans h.box, h.base, own_below h.ns hb, own_below h.gs hb, own_below h.rest hb, own_below h.names hb, own_below h.named hb, h.d0, h.d1, h.d2, h.d3, ext_trans h.below hb⟩
theorem OAt.drewN {w5 w : World} {N : Nat} {v15 v16 rv nv mv : Value} {st : RSt Val} {rest : List Val} (h : OAt w5 w N v15 v16 rv nv mv st rest) (n : Nat) : OAt w5 (w.drewN n) N v15 v16 rv nv mv st rest :=
  ⟨h.box, h.base, own_drew h.ns, own_drew h.gs, own_drew h.rest, own_drew h.names, own_drew h.named, h.d0, h.d1, h.d2, h.d3, below_drewN h.below n⟩

/-- A row lies apart from two others. -/
theorem far_of {w : World} {base base' e e' z z' n n' : Nat} {v v' : Value} {xs xs' : List Value} (h : w.ownsRow base e z v n xs) (h' : w.ownsRow base' e' z' v' n' xs') (hne : e ≠ e') : ∀ k, v.ownBlock = some k → v'.ownBlock ≠ some k := by
  intro k hk e2
  rcases own_apart h h' hne with h1 | h1
  · rw [h1] at hk; cases hk
  · exact h1 (hk.trans e2.symm)

theorem OAt.push1 {w5 w W : World} {N k1 c1 k2 c2 : Nat} {v15 v16 rv nv mv : Value} {st : RSt Val} {rest : List Val} {nm : ByteArray} {x : Val} (h : OAt w5 w N v15 v16 rv nv mv st rest)
    (hn1 : W.ownsRow w5.heap.size 9 1 (slG k1 (st.ns.length + 1) c1) (st.ns.length + 1) (st.ns.map Value.string ++ [.string nm])) (hn2 : W.ownsRow w5.heap.size 58 7 (slG k2 (st.gs.length + 1) c2) (st.gs.length + 1) (st.gs.flatMap valC ++ valC x))
    (hR : TwoRel w5.heap.size v15.ownBlock v16.ownBlock w W) (hk1 : v15.ownBlock = some k1 ∨ w.heap.size ≤ k1) (hk2 : v16.ownBlock = some k2 ∨ w.heap.size ≤ k2) :
    OAt w5 W N (slG k1 (st.ns.length + 1) c1) (slG k2 (st.gs.length + 1) c2) rv nv mv { st with ns := st.ns ++ [nm], gs := st.gs ++ [x] } rest := by
  have hN1 : v15.ownBlock ≠ some N := own_box h.ns h.box (by decide)
  have hN2 : v16.ownBlock ≠ some N := own_box h.gs h.box (by decide)
  have lt1 : ∀ k, rv.ownBlock = some k → k < w.heap.size := fun k hk => (h.rest.lt k hk).2
  have lt2 : ∀ k, nv.ownBlock = some k → k < w.heap.size := fun k hk => (h.names.lt k hk).2
  have lt3 : ∀ k, mv.ownBlock = some k → k < w.heap.size := fun k hk => (h.named.lt k hk).2
  refine ⟨(hR.far N (box_lt h.box) hN1 hN2).trans h.box, h.base, own_cast hn1 (by simp) (by simp), own_cast hn2 (by simp) (by simp), ?_, ?_, ?_, ?_, ?_, ?_, h.d3, h.below.trans hR.below⟩
  · exact own_far h.rest fun k hk => hR.far k (lt1 k hk) (fun e => far_of h.rest h.ns (by decide) k hk e) (fun e => h.d1 k e hk)
  · exact own_far h.names fun k hk => hR.far k (lt2 k hk) (fun e => h.d0 k e hk) (fun e => far_of h.names h.gs (by decide) k hk e)
  · exact own_far h.named fun k hk => hR.far k (lt3 k hk) (fun e => far_of h.named h.ns (by decide) k hk e) (fun e => h.d2 k e hk)
  · intro k hk e
    simp only [slG, Value.ownBlock, Option.some.injEq] at hk
    subst hk
    rcases hk1 with h1 | h1
    · exact h.d0 _ h1 e
    · have := lt2 _ e; omega
  · intro k hk e
    simp only [slG, Value.ownBlock, Option.some.injEq] at hk
    subst hk
    rcases hk2 with h1 | h1
    · exact h.d1 _ h1 e
    · have := lt1 _ e; omega
  · intro k hk e
    simp only [slG, Value.ownBlock, Option.some.injEq] at hk
    subst hk
    rcases hk2 with h1 | h1
    · exact h.d2 _ h1 e
    · have := lt3 _ e; omega

theorem box4_push {w : World} {N : Nat} {a0 a1 a2 a3 : Value} {t : TypeId} (h : w.heap[N]? = some (.cells #[a0, a1, a2, a3] t (0, 0))) (x y : Value) :
    ((w.setCell ⟨N, 2, none⟩ x).setCell ⟨N, 3, none⟩ y).heap[N]? = some (.cells #[a0, a1, x, y] t (0, 0)) := by
  simp [World.setCell, Array.getElem?_modify, h]

theorem OAt.push2 {w5 w W : World} {N k1 c1 k2 c2 : Nat} {v15 v16 rv nv mv : Value} {st : RSt Val} {rest : List Val} {nm : ByteArray} {x : Val} (h : OAt w5 w N v15 v16 rv nv mv st rest)
    (hn1 : W.ownsRow w5.heap.size 9 1 (slG k1 (st.names.length + 1) c1) (st.names.length + 1) (st.names.map Value.string ++ [.string nm])) (hn2 : W.ownsRow w5.heap.size 58 7 (slG k2 (st.named.length + 1) c2) (st.named.length + 1) (st.named.flatMap valC ++ valC x))
    (hR : TwoRel w5.heap.size nv.ownBlock mv.ownBlock w W) (hk1 : nv.ownBlock = some k1 ∨ w.heap.size ≤ k1) (hk2 : mv.ownBlock = some k2 ∨ w.heap.size ≤ k2) :
    OAt w5 ((W.setCell ⟨N, 2, none⟩ (slG k1 (st.names.length + 1) c1)).setCell ⟨N, 3, none⟩ (slG k2 (st.named.length + 1) c2)) N v15 v16 rv (slG k1 (st.names.length + 1) c1) (slG k2 (st.named.length + 1) c2) { st with names := st.names ++ [nm], named := st.named ++ [x] } rest := by
  have hN1 : nv.ownBlock ≠ some N := own_box h.names h.box (by decide)
  have hN2 : mv.ownBlock ≠ some N := own_box h.named h.box (by decide)
  have lt1 : ∀ k, rv.ownBlock = some k → k < w.heap.size := fun k hk => (h.rest.lt k hk).2
  have lt2 : ∀ k, v15.ownBlock = some k → k < w.heap.size := fun k hk => (h.ns.lt k hk).2
  have lt3 : ∀ k, v16.ownBlock = some k → k < w.heap.size := fun k hk => (h.gs.lt k hk).2
  have hbox := (hR.far N (box_lt h.box) hN1 hN2).trans h.box
  have step : ∀ {e z n : Nat} {v : Value} {xs : List Value} (x y : Value), W.ownsRow w5.heap.size e z v n xs → e ≠ 41 → ((W.setCell ⟨N, 2, none⟩ x).setCell ⟨N, 3, none⟩ y).ownsRow w5.heap.size e z v n xs := fun x y ho hne => by
    have hnb := own_box ho hbox hne
    exact (ho.kept (grown_setC W N 2 x) (.inr hnb)).kept (grown_setC _ N 3 y) (.inr hnb)
  refine ⟨box4_push hbox _ _, h.base, step _ _ (own_far h.ns fun k hk => hR.far k (lt2 k hk) (fun e => h.d0 k hk e) (fun e => far_of h.ns h.named (by decide) k hk e)) (by decide),
    step _ _ (own_far h.gs fun k hk => hR.far k (lt3 k hk) (fun e => far_of h.gs h.names (by decide) k hk e) (fun e => h.d2 k hk e)) (by decide),
    step _ _ (own_far h.rest fun k hk => hR.far k (lt1 k hk) (fun e => far_of h.rest h.names (by decide) k hk e) (fun e => h.d3 k hk e)) (by decide),
    own_cast (step _ _ hn1 (by decide)) (by simp) (by simp), own_cast (step _ _ hn2 (by decide)) (by simp) (by simp), ?_, h.d1, ?_, ?_, ((h.below.trans hR.below).setCell h.base _).setCell h.base _⟩
  · intro k hk e
    simp only [slG, Value.ownBlock, Option.some.injEq] at e
    subst e
    rcases hk1 with h1 | h1
    · exact h.d0 _ hk h1
    · have := lt2 _ hk; omega
  · intro k hk e
    simp only [slG, Value.ownBlock, Option.some.injEq] at e
    subst e
    rcases hk2 with h1 | h1
    · exact h.d2 _ hk h1
    · have := lt3 _ hk; omega
  · intro k hk e
    simp only [slG, Value.ownBlock, Option.some.injEq] at e
    subst e
    rcases hk2 with h1 | h1
    · exact h.d3 _ hk h1
    · have := lt1 _ hk; omega
theorem box4_rest {w : World} {N : Nat} {a0 a1 a2 a3 : Value} {t : TypeId} (h : w.heap[N]? = some (.cells #[a0, a1, a2, a3] t (0, 0))) (x : Value) :
    (w.setCell ⟨N, 1, none⟩ x).heap[N]? = some (.cells #[a0, x, a2, a3] t (0, 0)) := by
  simp [World.setCell, Array.getElem?_modify, h]
/-- The rest laid into the box. -/
theorem OAt.rested {w5 w w' : World} {N : Nat} {v15 v16 nv mv rv : Value} {st : RSt Val} {rest : List Val} (h : OAt w5 w N v15 v16 (.slice none 0 0) nv mv st []) (hg : w.drew.grownBy w' none)
    (hr : w'.ownsRow w5.heap.size 58 7 rv rest.length (rest.flatMap valC)) (hnew : ∀ g, rv.ownBlock = some g → w.heap.size ≤ g) : OAt w5 (w'.setCell ⟨N, 1, none⟩ rv) N v15 v16 rv nv mv st rest := by
  have hbox := (hg.block N (box_lt h.box) (by simp)).trans h.box
  have step : ∀ {e z n : Nat} {v : Value} {xs : List Value}, w.ownsRow w5.heap.size e z v n xs → e ≠ 41 → (w'.setCell ⟨N, 1, none⟩ rv).ownsRow w5.heap.size e z v n xs := fun ho hne =>
    ((own_drew ho).kept hg (by
      rename_i v _
      cases v.ownBlock with
      | none => exact .inl rfl
      | some q => exact .inr (by simp))).kept (grown_setC w' N 1 rv) (.inr (own_box ho h.box hne))
  have ap : ∀ {e z n : Nat} {v : Value} {xs : List Value}, w.ownsRow w5.heap.size e z v n xs → ∀ k, v.ownBlock = some k → rv.ownBlock ≠ some k := fun ho k hk e => by
    have := hnew k e
    have := (ho.lt k hk).2
    omega
  refine ⟨box4_rest hbox rv, h.base, step h.ns (by decide), step h.gs (by decide), hr.kept (grown_setC w' N 1 rv) (.inr (own_box hr hbox (by decide))), step h.names (by decide), step h.named (by decide), h.d0, ap h.gs, h.d2, fun k hk e => ap h.named k e hk, ?_⟩
  exact (h.below.drew.grown hg (by simpa using h.below.size) (fun q hq => by cases hq)).setCell h.base rv

/-- The last loop: what has been laid out, and what is to come. -/
def outC (st : RSt Val) (rest acc : List Val) (r : BMsg ⊕ List Val) : BMsg ⊕ (BSt Val × List Val) := match r with
  | .inl m => .inl m
  | .inr vs => .inr (⟨acc ++ vs, st.names, st.named⟩, rest)
section
variable {st : RSt Val} {rest acc ds gs : List Val} {ns : List ByteArray} {next : Nat} {p : Par} {ps : List Par}
theorem outC_cons (v : Val) (r : BMsg ⊕ List Val) : outC st rest acc (match r with | .inl m => .inl m | .inr vs => .inr (v :: vs)) = outC st rest (acc ++ [v]) r := by
  cases r <;> simp [outC]
theorem out_some {j : Nat} (h : own p = true) (hj : ns.findIdx? (sameN p.s) = some j) : outC st rest acc (outGo unbV ns gs next ds (p :: ps)) = outC st rest (acc ++ [gs.getD j unbV]) (outGo unbV ns gs (next + p.n) ds ps) := by
  have e : outGo unbV ns gs next ds (p :: ps) = (match outGo unbV ns gs (next + p.n) ds ps with | .inl m => .inl m | .inr vs => .inr (gs.getD j unbV :: vs)) := by
    conv => { lhs; unfold outGo }
    rw [if_pos h, hj]
    cases outGo unbV ns gs (next + p.n) ds ps <;> rfl
  rw [e, outC_cons]
theorem out_default (h : own p = true) (hj : ns.findIdx? (sameN p.s) = none) (hn : 0 < p.n) : outC st rest acc (outGo unbV ns gs next ds (p :: ps)) = outC st rest (acc ++ [ds.getD next unbV]) (outGo unbV ns gs (next + p.n) ds ps) := by
  have e : outGo unbV ns gs next ds (p :: ps) = (match outGo unbV ns gs (next + p.n) ds ps with | .inl m => .inl m | .inr vs => .inr (ds.getD next unbV :: vs)) := by
    conv => { lhs; unfold outGo }
    rw [if_pos h, hj]; simp only [if_pos hn]
    cases outGo unbV ns gs (next + p.n) ds ps <;> rfl
  rw [e, outC_cons]
theorem out_needs (h : own p = true) (hj : ns.findIdx? (sameN p.s) = none) (hn : ¬ 0 < p.n) : outC st rest acc (outGo unbV ns gs next ds (p :: ps)) = .inl (.needs p.s) := by
  conv => { lhs; unfold outGo }
  rw [if_pos h, hj]
  simp only [if_neg hn]
  rfl
theorem out_other (h : own p = false) : outC st rest acc (outGo unbV ns gs next ds (p :: ps)) = outC st rest (acc ++ [unbV]) (outGo unbV ns gs (next + p.n) ds ps) := by
  have e : outGo unbV ns gs next ds (p :: ps) = (match outGo unbV ns gs (next + p.n) ds ps with | .inl m => .inl m | .inr vs => .inr (unbV :: vs)) := by
    conv => { lhs; unfold outGo }
    rw [if_neg (by rw [h]; simp)]
    cases outGo unbV ns gs (next + p.n) ds ps <;> rfl
  rw [e, outC_cons]
end

structure PAt (w5 w : World) (N : Nat) (v15 v16 vv rv nv mv : Value) (st : RSt Val) (rest acc : List Val) : Prop where
  box : w.heap[N]? = some (.cells #[vv, rv, nv, mv] 41 (0, 0))
  base : w5.heap.size ≤ N
  ns : w.ownsRow w5.heap.size 9 1 v15 st.ns.length (st.ns.map Value.string)
  gs : w.ownsRow w5.heap.size 58 7 v16 st.gs.length (st.gs.flatMap valC)
  vals : w.ownsRow w5.heap.size 58 7 vv acc.length (acc.flatMap valC)
  rest : w.ownsRow w5.heap.size 58 7 rv rest.length (rest.flatMap valC)
  names : w.ownsRow w5.heap.size 9 1 nv st.names.length (st.names.map Value.string)
  named : w.ownsRow w5.heap.size 58 7 mv st.named.length (st.named.flatMap valC)
  d1 : ∀ k, vv.ownBlock = some k → v16.ownBlock ≠ some k
  d2 : ∀ k, vv.ownBlock = some k → rv.ownBlock ≠ some k
  d3 : ∀ k, vv.ownBlock = some k → mv.ownBlock ≠ some k
  below : Below w5.heap.size w5 w

theorem PAt.under {w5 w w' : World} {N : Nat} {v15 v16 vv rv nv mv : Value} {st : RSt Val} {rest acc : List Val} (h : PAt w5 w N v15 v16 vv rv nv mv st rest acc) (hb : Below w.heap.size w w') : PAt w5 w' N v15 v16 vv rv nv mv st rest acc :=
  ⟨(hb.block N (box_lt h.box)).trans h.box, h.base, own_below h.ns hb, own_below h.gs hb, own_below h.vals hb, own_below h.rest hb, own_below h.names hb, own_below h.named hb, h.d1, h.d2, h.d3, ext_trans h.below hb⟩
theorem OAt.toP {w5 w : World} {N : Nat} {v15 v16 rv nv mv : Value} {st : RSt Val} {rest : List Val} (h : OAt w5 w N v15 v16 rv nv mv st rest) : PAt w5 w N v15 v16 (.slice none 0 0) rv nv mv st rest [] :=
  ⟨h.box, h.base, h.ns, h.gs, World.ownsRow_nil _ _ _ _, h.rest, h.names, h.named, fun k hk => by simp [Value.ownBlock] at hk, fun k hk => by simp [Value.ownBlock] at hk, fun k hk => by simp [Value.ownBlock] at hk, h.below⟩
theorem box4_vals {w : World} {N : Nat} {a0 a1 a2 a3 : Value} {t : TypeId} (h : w.heap[N]? = some (.cells #[a0, a1, a2, a3] t (0, 0))) (x : Value) :
    (w.setCell ⟨N, 0, none⟩ x).heap[N]? = some (.cells #[x, a1, a2, a3] t (0, 0)) := by
  simp [World.setCell, Array.getElem?_modify, h]

theorem PAt.push {w5 w w2 : World} {N n : Nat} {v15 v16 vv vv' rv nv mv : Value} {st : RSt Val} {rest acc : List Val} {x : Val} (h : PAt w5 w N v15 v16 vv rv nv mv st rest acc)
    (hn : w2.ownsRow w5.heap.size 58 7 vv' n (acc.flatMap valC ++ valC x)) (hnl : n = acc.length + 1) (hg : w.grownBy w2 vv.ownBlock) (hat : ∀ k, vv'.ownBlock = some k → vv.ownBlock = some k ∨ w.heap.size ≤ k) :
    PAt w5 (w2.setCell ⟨N, 0, none⟩ vv') N v15 v16 vv' rv nv mv st rest (acc ++ [x]) := by
  have hNv : vv.ownBlock ≠ some N := own_box h.vals h.box (by decide)
  have hbox := (hg.block N (box_lt h.box) (Ne.symm hNv)).trans h.box
  have step : ∀ {e z n : Nat} {v : Value} {xs : List Value}, w2.ownsRow w5.heap.size e z v n xs → e ≠ 41 → (w2.setCell ⟨N, 0, none⟩ vv').ownsRow w5.heap.size e z v n xs := fun ho hne =>
    ho.kept (grown_setC w2 N 0 vv') (.inr (own_box ho hbox hne))
  have ap : ∀ {v : Value}, (∀ k, vv.ownBlock = some k → v.ownBlock ≠ some k) → v.ownBlock = none ∨ v.ownBlock ≠ vv.ownBlock := fun d => apart_of d
  have nw : ∀ {e z n : Nat} {v : Value} {xs : List Value}, w.ownsRow w5.heap.size e z v n xs → (∀ k, vv.ownBlock = some k → v.ownBlock ≠ some k) → ∀ k, vv'.ownBlock = some k → v.ownBlock ≠ some k := fun ho d k hk e => by
    rcases hat k hk with h1 | h1
    · exact d k h1 e
    · have := (ho.lt k e).2; omega
  exact ⟨box4_vals hbox vv', h.base, step (h.ns.kept hg (ap (far_of h.vals h.ns (by decide)))) (by decide), step (h.gs.kept hg (ap h.d1)) (by decide), own_cast (step hn (by decide)) (by simp [hnl]) (by simp),
    step (h.rest.kept hg (ap h.d2)) (by decide), step (h.names.kept hg (ap (far_of h.vals h.names (by decide)))) (by decide), step (h.named.kept hg (ap h.d3)) (by decide), nw h.gs h.d1, nw h.rest h.d2, nw h.named h.d3,
    (h.below.grown hg h.below.size (fun q hq => (h.vals.lt q hq).1)).setCell h.base vv'⟩

theorem box7_set {w : World} {N : Nat} (y x : Val) (h : w.heap[N]? = some (valO y)) :
    (((((((w.setCell ⟨N, 0, none⟩ (.int .i64 x.k)).setCell ⟨N, 1, none⟩ (.bool x.n)).setCell ⟨N, 2, none⟩ (.slice x.na x.nl x.nc)).setCell ⟨N, 3, none⟩ (.bool x.d)).setCell ⟨N, 4, none⟩ (.slice x.da x.dl x.dc)).setCell ⟨N, 5, none⟩ (.string x.s)).setCell ⟨N, 6, none⟩ (.int .i64 x.r)).heap[N]? = some (valO x) := by
  unfold valO at h ⊢
  simp [World.setCell, Array.getElem?_modify, h]
theorem below7 {B N : Nat} {w W : World} (h : Below B w W) (h1 : B ≤ N) (x : Val) :
    Below B w (((((((W.setCell ⟨N, 0, none⟩ (.int .i64 x.k)).setCell ⟨N, 1, none⟩ (.bool x.n)).setCell ⟨N, 2, none⟩ (.slice x.na x.nl x.nc)).setCell ⟨N, 3, none⟩ (.bool x.d)).setCell ⟨N, 4, none⟩ (.slice x.da x.dl x.dc)).setCell ⟨N, 5, none⟩ (.string x.s)).setCell ⟨N, 6, none⟩ (.int .i64 x.r)) :=
  ((((((h.setCell h1 _).setCell h1 _).setCell h1 _).setCell h1 _).setCell h1 _).setCell h1 _).setCell h1 _
theorem other7 {w : World} {N M : Nat} {o : Obj} (x : Val) (h : w.heap[M]? = some o) (hne : M ≠ N) :
    (((((((w.setCell ⟨N, 0, none⟩ (.int .i64 x.k)).setCell ⟨N, 1, none⟩ (.bool x.n)).setCell ⟨N, 2, none⟩ (.slice x.na x.nl x.nc)).setCell ⟨N, 3, none⟩ (.bool x.d)).setCell ⟨N, 4, none⟩ (.slice x.da x.dl x.dc)).setCell ⟨N, 5, none⟩ (.string x.s)).setCell ⟨N, 6, none⟩ (.int .i64 x.r)).heap[M]? = some o := by
  simp [World.setCell, Array.getElem?_modify, h, hne.symm]
theorem sumN_split (ps : List Par) (k : Nat) : sumN ps = sumN (ps.take k) + sumN (ps.drop k) := by
  unfold sumN
  rw [← List.sum_append, ← List.map_append, List.take_append_drop]
end Go.Proofs.Ytbickehhnkhabaa
