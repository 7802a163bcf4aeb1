/- Part 16 of the proof. -/
import Derived.Test.YtjlnanhjhfkddaaDoorM12
import Derived.Test.YtjlnanhjhfkddaaDoorM15

/- The shelf's contracts and RatioOk's, as contracts of data. -/
namespace Go.Proofs.YtjlnanhjhfkddaaDoor
open Go.RowKit

theorem PStp.ofBelow {w w' : World} {s : Sb} (hlt : ∀ B o, s B o → B < w.heap.size) (h : Below w.heap.size w w') : PStp w s w' s :=
  ⟨⟨fun _ _ h => h, (fun b o hs => World.cell?_of_block (h.block b (hlt b o hs))), fun _ _ h => h⟩, fun B o hs => Nat.lt_of_lt_of_le (hlt B o hs) h.size, h.os, h.tape, h.output, h.size, h.block, fun _ _ h => .inl h, fun _ _ h => .inl h⟩
theorem fn_below {P : Program} {f : FuncId} {args : List D} {x : Value} (hb : Bod P f) (h : ∀ (w : World) (s : Sb) (vs : List Value), Glb w s → AllV w s (D.pvs args) vs → Calls P f vs.toArray w fun e w' => e = .returned x ∧ Below w.heap.size w w') : Fn P f args (.v x) :=
  ⟨hb, fun w s vs hlt hg hv => (h w s vs hg hv).mono fun _ _ ⟨h1, h2⟩ => ⟨s, x, h1, rfl, PStp.ofBelow hlt h2⟩⟩
/-- A result that is a row of strings in a new block. -/
theorem fn_rowS {P : Program} {f : FuncId} {args : List D} {l : List ByteArray} {t : TypeId} (hb : Bod P f) (hm : l.length ≤ 9223372036854775807) (h : ∀ (w : World) (s : Sb) (vs : List Value), Glb w s → AllV w s (D.pvs args) vs → Calls P f vs.toArray w fun e w' => e = .returned (.slice (some ⟨w.heap.size, 0, none⟩) l.length l.length) ∧ w' = w.alloc (.cells (l.map Value.string).toArray t)) : Fn P f args (ssD l) := by
  refine ⟨hb, fun w s vs hlt hg hv => (h w s vs hg hv).mono ?_⟩
  rintro e w' ⟨rfl, rfl⟩
  have hst := Stp.newStable (w := w) (s := s) (g := ⟨fun _ => none, fun _ _ => none⟩) hlt (.cells (l.map Value.string).toArray t)
  refine ⟨s.add fun B _ => B = w.heap.size, _, rfl, ⟨_, _, by simp, by simp, hm, ?_, fun i row hr => ⟨w.heap.size, 0, rfl, fun j d hd => ?_⟩⟩, hst.ex, hst.lt, rfl, rfl, rfl, by simp, fun N hN => Below.heap_alloc w _ N hN, fun B o hs => hs.imp id fun e => by omega, fun B o hs => hs.imp id fun e => by omega⟩
  · intro row hr
    obtain ⟨p, _, rfl⟩ := List.mem_map.1 hr
    rfl
  · rw [List.getElem?_map] at hr
    cases hp : l[i]? with
    | none => rw [hp] at hr; simp at hr
    | some p =>
      rw [hp] at hr; simp at hr; subst hr
      have hj : j = 0 ∧ d = PV.lit (.string p) := by
        match j, hd with
        | 0, hd => simp [sD, D.pvs, D.pv] at hd; exact ⟨rfl, hd.symm⟩
        | j + 1, hd => simp [sD, D.pvs] at hd
      obtain ⟨rfl, rfl⟩ := hj
      refine ⟨.string p, ?_, .inr rfl, rfl, rfl⟩
      rw [cell_of_row _ w.heap.size _ _ t (0, 0) (heap_alloc_new w _)]
      simp [hp]
theorem allV_one {w : World} {s : Sb} {x : Value} {vs : List Value} (h : AllV w s (D.pvs [.v x]) vs) : vs = [x] := by
  match vs, h with
  | [v], h => have : v = x := h.1; rw [this]
  | [], h => exact h.elim
  | _ :: _ :: _, h => exact h.2.elim
theorem allV_two {w : World} {s : Sb} {x y : Value} {vs : List Value} (h : AllV w s (D.pvs [.v x, .v y]) vs) : vs = [x, y] := by
  match vs, h with
  | [v, u], h =>
    have h1 : v = x := h.1
    have h2 : u = y := h.2.1
    rw [h1, h2]
  | [], h => exact h.elim
  | [_], h => exact h.2.elim
  | _ :: _ :: _ :: _, h => exact h.2.2.elim

theorem ValidString_ok (p : ByteArray) (hp : p.size ≤ 9223372036854775807) : Fn Tryd.prog 57 [.v (.string p)] (.v (.bool (Lib.validD p.data.toList))) := by
  refine fn_below ⟨_, Tryd.func57, rfl, rfl⟩ fun w s vs hg hv => ?_
  rw [allV_one hv]
  obtain ⟨G, h1, h2⟩ := hg
  exact Any.utf8_ValidString Tryd.laysValid p w hp ⟨fun c hc => (h2 _ _ _ (h1.first c hc)).1, fun i hi => ⟨(h2 _ _ _ (h1.accept i hi).1).1, (h2 _ _ _ (h1.accept i hi).2).1⟩⟩
theorem Contains_ok (p q : ByteArray) (hp : p.size < 4294967281) : Fn Tryd.prog 42 [.v (.string p), .v (.string q)] (.v (.bool (Lib.contains p.data.toList q.data.toList))) := by
  refine fn_below ⟨_, Tryd.func42, rfl, rfl⟩ fun w s vs hg hv => ?_
  rw [allV_two hv]
  obtain ⟨G, h1, h2⟩ := hg
  obtain ⟨m, hm⟩ := h1.maxLen
  exact (Any.strings_Contains Tryd.laysContains p q m w hp (h2 _ _ _ hm).1).mono fun e w' ⟨h3, h4⟩ => ⟨h3, by rw [h4]; exact Below.refl _ _⟩
/-- The pieces between separators. -/
def splitS (p sep : ByteArray) : List ByteArray := Lib.splitB sep 0 (Lib.countB p sep) p
theorem splitS_len {p sep : ByteArray} (h : 1 ≤ sep.size) : (splitS p sep).length = Lib.countB p sep + 1 := Lib.splitB_all sep h 0 _ p rfl
theorem Split_ok (p sep : ByteArray) (hp : p.size < 4294967281) (h1 : 1 ≤ sep.size) : Fn Tryd.prog 64 [.v (.string p), .v (.string sep)] (ssD (splitS p sep)) := by
  have hle := Lib.countB_le sep h1 p.size p (Nat.le_refl _)
  refine fn_rowS (t := 9) ⟨_, Tryd.func64, rfl, rfl⟩ (by rw [splitS_len h1]; omega) fun w s vs hg hv => ?_
  rw [allV_two hv, splitS_len h1]
  obtain ⟨G, g1, g2⟩ := hg
  obtain ⟨m, hm⟩ := g1.maxLen
  exact Any.strings_Split Tryd.laysSplit (by kernel_rfl) p sep m w hp (g2 _ _ _ hm).1 h1
theorem rowU_of {w : World} {s : Sb} {v : Value} {l : List Nat} (h : (D.sl false 1 l uD 0).pv.p w s v) : RowU w v l := by
  obtain ⟨a, cap, rfl, h2, h3, h4, h5⟩ := h
  simp only [List.length_map] at h2 ⊢
  refine ⟨a, cap, rfl, h2, h3, fun i hi => ?_⟩
  obtain ⟨b, off, rfl, hc⟩ := h5 i (D.pvs (uD l[i])) (by simp [hi])
  obtain ⟨u, g1, _, g2, _⟩ := hc 0 (PV.lit (.int .u32 (l[i] : Nat))) rfl
  have g2' : u = .int .u32 (l[i] : Nat) := g2
  subst g2'
  exact ⟨b, off, rfl, by simpa using g1⟩
theorem RatioOk_ok (b1 b2 : Bool) (l1 l2 : List Nat) (g1 : Lg l1) (g2 : Lg l2) (n1 : l1.length ≤ 2000000) (n2 : l2.length ≤ 2000000) : Fn Tryd.prog 56 [.agg [.v (.bool b1), usD l1, .v (.bool b2), usD l2]] (.v (.bool (ratS b1 l1 b2 l2))) := by
  refine fn_below ⟨_, Tryd.func56, rfl, rfl⟩ fun w s vs hg hv => ?_
  match vs, hv with
  | [v], hv =>
    obtain ⟨us, rfl, hu⟩ := hv.1
    match us, hu with
    | [u1, u2, u3, u4], hu =>
      have e1 : u1 = .bool b1 := hu.1
      have e3 : u3 = .bool b2 := hu.2.2.1
      subst e1; subst e3
      refine (RatioOk_any b1 b2 u2 u4 l1 l2 w (rowU_of hu.2.1) (rowU_of hu.2.2.2.1) g1 g2 n1 n2).mono ?_
      rintro e w' ⟨b, rfl, rfl, h⟩
      exact ⟨rfl, h⟩
    | [], hu => exact hu.elim
    | [_], hu => exact hu.2.elim
    | [_, _], hu => exact hu.2.2.elim
    | [_, _, _], hu => exact hu.2.2.2.elim
    | _ :: _ :: _ :: _ :: _ :: _, hu => exact hu.2.2.2.2.elim
  | [], hv => exact hv.elim
  | _ :: _ :: _, hv => exact hv.2.elim
end Go.Proofs.YtjlnanhjhfkddaaDoor
