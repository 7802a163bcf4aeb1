/- Part 1 of the proof. -/
import Derived.Shelf.Unicode.DecodeSlow
import Derived.Lib.Space
import Derived.WalkKit
import Derived.WalkSpells
import Derived.WalkLawsBesides
import Derived.Lib.Hide
import Derived.Laws.Rows
import Derived.Laws.AppendOwnNone
import Derived.OrdersHeld
import Derived.Deep.MidRow
import Derived.Great.BuildSlice

/- What the library's variables hold: a map of cells. -/
namespace Go.Proofs.YtfkaepjlmgolhaaGreatDoor
open Go.RowKit

/-- Of these cells: the limit of a search (any number), the two tables of UTF-8. -/
structure GSpec (G : Nat → Nat → Option Value) : Prop where
  maxLen : ∃ m : Int, G 4 0 = some (.int .i64 m)
  first : ∀ c, c < 256 → G 2 c = some (.int .u8 (Lib.firstT c))
  accept : ∀ i, i < 16 → G 3 (2 * i) = some (.int .u8 (Lib.accLo i)) ∧ G 3 (2 * i + 1) = some (.int .u8 (Lib.accHi i))
  space : ∀ c : Nat, c < 256 → G 0 c = some (.int .u8 (if Lib.isSp (UInt8.ofNat c) then 1 else 0))
end Go.Proofs.YtfkaepjlmgolhaaGreatDoor

/- Abstract execution: values that read as data; what a call owns; states. Nothing here speaks of the program. -/
namespace Go.Proofs.YtfkaepjlmgolhaaGreatDoor
open Go.RowKit

/-- Cells that no longer turn. -/
abbrev Sb := Nat → Nat → Prop
structure Ex (w : World) (s : Sb) (w' : World) (s' : Sb) : Prop where
  st : ∀ b o, s b o → s' b o
  cell : ∀ b o, s b o → w'.cell? ⟨b, o, none⟩ = w.cell? ⟨b, o, none⟩
theorem Ex.refl (w : World) (s : Sb) : Ex w s w s := ⟨fun _ _ h => h, fun _ _ _ => rfl⟩
theorem Ex.trans {w w' w'' : World} {s s' s'' : Sb} (h : Ex w s w' s') (k : Ex w' s' w'' s'') : Ex w s w'' s'' :=
  ⟨fun b o hs => k.st b o (h.st b o hs), fun b o hs => (k.cell b o (h.st b o hs)).trans (h.cell b o hs)⟩
/-- What the library's variables hold, and that they stay. -/
def Glb (w : World) (s : Sb) : Prop := ∃ G : Nat → Nat → Option Value, GSpec G ∧ ∀ b o v, G b o = some v → w.cell? ⟨b, o, none⟩ = some v ∧ s b o
theorem Glb.mono {w w' : World} {s s' : Sb} (h : Glb w s) (hx : Ex w s w' s') : Glb w' s' := by
  obtain ⟨G, h1, h2⟩ := h
  refine ⟨G, h1, fun b o v hv => ?_⟩
  obtain ⟨h3, h4⟩ := h2 b o v hv
  exact ⟨(hx.cell b o h4).trans h3, hx.st b o h4⟩

/-- A datum: what a value reads as, in a way that stays. -/
structure PV where
  one : Bool
  p : World → Sb → Value → Prop
  mono : ∀ w s w' s' v, Ex w s w' s' → p w s v → p w' s' v
  cell : one = true → ∀ w s v, p w s v → v.oneCell' = true

def PV.lit (x : Value) : PV := ⟨x.oneCell', fun _ _ v => v = x, fun _ _ _ _ _ _ h => h, fun h _ _ _ e => by rw [e]; exact h⟩

def AllV (w : World) (s : Sb) : List PV → List Value → Prop
  | [], [] => True
  | d :: l, v :: vs => d.p w s v ∧ AllV w s l vs
  | _, _ => False
theorem AllV.mono {w w' : World} {s s' : Sb} (hx : Ex w s w' s') : ∀ {l : List PV} {vs : List Value}, AllV w s l vs → AllV w' s' l vs
  | [], [], _ => trivial
  | d :: _, v :: _, h => ⟨d.mono _ _ _ _ v hx h.1, AllV.mono hx h.2⟩
  | [], _ :: _, h => h.elim
  | _ :: _, [], h => h.elim
theorem AllV.length {w : World} {s : Sb} : ∀ {l : List PV} {vs : List Value}, AllV w s l vs → vs.length = l.length
  | [], [], _ => rfl
  | _ :: _, _ :: _, h => by simp [AllV.length h.2]
  | [], _ :: _, h => h.elim
  | _ :: _, [], h => h.elim
theorem AllV.get {w : World} {s : Sb} : ∀ {l : List PV} {vs : List Value}, AllV w s l vs → ∀ {j : Nat} {d : PV}, l[j]? = some d → ∃ v, vs[j]? = some v ∧ d.p w s v
  | [], [], _, j, d, hd => by simp at hd
  | e :: l, v :: vs, h, 0, d, hd => by simp at hd; subst hd; exact ⟨v, rfl, h.1⟩
  | e :: l, v :: vs, h, j + 1, d, hd => by simpa using AllV.get h.2 (by simpa using hd)
  | [], _ :: _, h, _, _, _ => h.elim
  | _ :: _, [], h, _, _, _ => h.elim
theorem AllV.mk {w : World} {s : Sb} : ∀ {l : List PV} {vs : List Value}, vs.length = l.length → (∀ (j : Nat) (d : PV) (v : Value), l[j]? = some d → vs[j]? = some v → d.p w s v) → AllV w s l vs
  | [], [], _, _ => trivial
  | d :: l, v :: vs, hl, h => ⟨h 0 d v rfl rfl, AllV.mk (by simpa using hl) fun j d v hd hv => h (j + 1) d v (by simpa using hd) (by simpa using hv)⟩
  | [], _ :: _, hl, _ => by simp at hl
  | _ :: _, [], hl, _ => by simp at hl

def PV.agg (l : List PV) : PV := ⟨false, fun w s v => ∃ vs : List Value, v = .agg vs.toArray ∧ AllV w s l vs, fun _ _ _ _ _ hx ⟨vs, h1, h2⟩ => ⟨vs, h1, h2.mono hx⟩, fun h => by cases h⟩
def PV.tup (l : List PV) : PV := ⟨false, fun w s v => ∃ vs : List Value, v = .tuple vs.toArray ∧ AllV w s l vs, fun _ _ _ _ _ hx ⟨vs, h1, h2⟩ => ⟨vs, h1, h2.mono hx⟩, fun h => by cases h⟩

/-- From this place on the cells stay and read as these. -/
def CellsAt (w : World) (s : Sb) (b o : Nat) (row : List PV) : Prop := ∀ j d, row[j]? = some d → ∃ u, w.cell? ⟨b, o + j, none⟩ = some u ∧ s b (o + j) ∧ d.p w s u ∧ u.oneCell' = true
theorem CellsAt.mono {w w' : World} {s s' : Sb} {b o : Nat} {row : List PV} (hx : Ex w s w' s') (h : CellsAt w s b o row) : CellsAt w' s' b o row := by
  intro j d hd
  obtain ⟨u, h1, h2, h3, h4⟩ := h j d hd
  exact ⟨u, by rw [hx.cell _ _ h2]; exact h1, hx.st _ _ h2, d.mono _ _ _ _ u hx h3, h4⟩
theorem CellsAt.drop {w : World} {s : Sb} {b o : Nat} {row : List PV} (h : CellsAt w s b o row) (n : Nat) : CellsAt w s b (o + n) (row.drop n) := by
  intro j d hd
  rw [List.getElem?_drop] at hd
  obtain ⟨u, h1, h2, h3, h4⟩ := h _ d hd
  rw [Nat.add_assoc]
  exact ⟨u, h1, h2, h3, h4⟩

/-- A slice that reads as these rows of sz cells each. -/
def PV.sl (sz : Nat) (rows : List (List PV)) : PV where
  one := true
  p := fun w s v => ∃ a cap, v = .slice a rows.length cap ∧ rows.length ≤ cap ∧ cap ≤ 9223372036854775807 ∧ (∀ row ∈ rows, row.length = sz) ∧ ∀ i row, rows[i]? = some row → ∃ b off, a = some ⟨b, off, none⟩ ∧ CellsAt w s b (off + i * sz) row
  mono := fun w s w' s' v hx ⟨a, cap, h1, h2, h3, h4, h5⟩ => ⟨a, cap, h1, h2, h3, h4, fun i row hr => by
    obtain ⟨b, off, e, hc⟩ := h5 i row hr
    exact ⟨b, off, e, hc.mono hx⟩⟩
  cell := fun _ w s v ⟨a, cap, h1, _⟩ => by rw [h1]; rfl
/-- A pointer to cells that stay. -/
def PV.pt (row : List PV) : PV where
  one := true
  p := fun w s v => ∃ b o, v = .pointer (some ⟨b, o, none⟩) ∧ CellsAt w s b o row
  mono := fun w s w' s' v hx ⟨b, o, h1, h2⟩ => ⟨b, o, h1, h2.mono hx⟩
  cell := fun _ w s v ⟨b, o, h1, _⟩ => by rw [h1]; rfl

/-- A datum where the condition holds; nothing (undef) where it does not. -/
def PV.gd (c : Bool) (d : PV) : PV := ⟨false, fun w s v => (c = true → d.p w s v) ∧ (c = false → v = undef), fun w s w' s' v hx h => ⟨fun e => d.mono w s w' s' v hx (h.1 e), h.2⟩, fun h => by cases h⟩

/-- What a temporary holds: a datum; a pointer into a box of the call's own; the last slice of a row of the call's own; a guarded pointer into a box. -/
inductive TV where
  | pv (d : PV)
  | bp (k off : Nat)
  | own (k sz : Nat) (rows : List (List PV))
  | gbp (c : Bool) (k off : Nat)
  | agg (l : List TV)
/-- Where the call's own boxes lie; the slice that a row of its own was at each length. -/
structure Gh where
  bx : Nat → Option Nat
  gn : Nat → Nat → Option Value
mutual
def TV.P (w : World) (s : Sb) (g : Gh) : TV → Value → Prop
  | .pv d, v => d.p w s v
  | .bp k off, v => ∃ N, g.bx k = some N ∧ v = .pointer (some ⟨N, off, none⟩)
  | .own k sz rows, v => (PV.sl sz rows).p w s v ∧ g.gn k rows.length = some v
  | .gbp c k off, v => (c = true → ∃ N, g.bx k = some N ∧ v = .pointer (some ⟨N, off, none⟩)) ∧ (c = false → v = undef)
  | .agg l, v => ∃ vs : List Value, v = .agg vs.toArray ∧ AllT w s g l vs
def AllT (w : World) (s : Sb) (g : Gh) : List TV → List Value → Prop
  | [], [] => True
  | d :: l, v :: vs => d.P w s g v ∧ AllT w s g l vs
  | _, _ => False
end
def TV.one : TV → Bool
  | .pv d => d.one
  | .gbp _ _ _ => false
  | .agg _ => false
  | _ => true
theorem TV.cell {w : World} {s : Sb} {g : Gh} {d : TV} {v : Value} (h1 : d.one = true) (h : d.P w s g v) : v.oneCell' = true := by
  match d, h1, h with
  | .pv d, h1, h => exact d.cell h1 _ _ _ h
  | .bp k off, _, ⟨N, _, e⟩ => rw [e]; rfl
  | .own k sz rows, _, h => exact (PV.sl sz rows).cell rfl _ _ _ h.1
structure GLe (g g' : Gh) : Prop where
  bx : ∀ k N, g.bx k = some N → g'.bx k = some N
  gn : ∀ k m v, g.gn k m = some v → g'.gn k m = some v
theorem GLe.refl (g : Gh) : GLe g g := ⟨fun _ _ h => h, fun _ _ _ h => h⟩
mutual
theorem TV.mono {w w' : World} {s s' : Sb} {g g' : Gh} {d : TV} {v : Value} (hx : Ex w s w' s') (hg : GLe g g') (h : d.P w s g v) : d.P w' s' g' v := by
  match d, h with
  | .pv d, h =>
    rw [TV.P] at h ⊢
    exact d.mono _ _ _ _ _ hx h
  | .bp k off, h =>
    rw [TV.P] at h ⊢
    obtain ⟨N, h1, e⟩ := h
    exact ⟨N, hg.bx _ _ h1, e⟩
  | .own k sz rows, h =>
    rw [TV.P] at h ⊢
    exact ⟨(PV.sl sz rows).mono _ _ _ _ _ hx h.1, hg.gn _ _ _ h.2⟩
  | .gbp c k off, h =>
    rw [TV.P] at h ⊢
    exact ⟨fun e => by obtain ⟨N, h1, h2⟩ := h.1 e; exact ⟨N, hg.bx _ _ h1, h2⟩, h.2⟩
  | .agg l, h =>
    rw [TV.P] at h ⊢
    obtain ⟨vs, h1, h2⟩ := h
    exact ⟨vs, h1, AllT.mono hx hg h2⟩
theorem AllT.mono {w w' : World} {s s' : Sb} {g g' : Gh} {l : List TV} {vs : List Value} (hx : Ex w s w' s') (hg : GLe g g') (h : AllT w s g l vs) : AllT w' s' g' l vs := by
  match l, vs, h with
  | [], [], _ => rw [AllT]; trivial
  | d :: l, v :: vs, h =>
    rw [AllT] at h ⊢
    exact ⟨TV.mono hx hg h.1, AllT.mono hx hg h.2⟩
  | [], _ :: _, h => simp [AllT] at h
  | _ :: _, [], h => simp [AllT] at h
end
theorem AllT.cons {w : World} {s : Sb} {g : Gh} {d : TV} {l : List TV} {v : Value} {vs : List Value} : AllT w s g (d :: l) (v :: vs) ↔ d.P w s g v ∧ AllT w s g l vs := by rw [AllT]
theorem AllT.length {w : World} {s : Sb} {g : Gh} : ∀ {l : List TV} {vs : List Value}, AllT w s g l vs → vs.length = l.length
  | [], [], _ => rfl
  | _ :: _, _ :: _, h => by simp [AllT.length h.2]
  | [], _ :: _, h => h.elim
  | _ :: _, [], h => h.elim
theorem AllT.get {w : World} {s : Sb} {g : Gh} : ∀ {l : List TV} {vs : List Value}, AllT w s g l vs → ∀ {j : Nat} {d : TV}, l[j]? = some d → ∃ v, vs[j]? = some v ∧ d.P w s g v
  | [], [], _, j, d, hd => by simp at hd
  | e :: l, v :: vs, h, 0, d, hd => by simp at hd; subst hd; exact ⟨v, rfl, h.1⟩
  | e :: l, v :: vs, h, j + 1, d, hd => by simpa using AllT.get h.2 (by simpa using hd)
  | [], _ :: _, h, _, _, _ => h.elim
  | _ :: _, [], h, _, _, _ => h.elim
theorem AllT.pv {w : World} {s : Sb} {g : Gh} : ∀ {l : List PV} {vs : List Value}, AllT w s g (l.map TV.pv) vs ↔ AllV w s l vs
  | [], [] => Iff.rfl
  | d :: l, v :: vs => by simp only [List.map_cons, AllT, AllV, TV.P, AllT.pv]
  | [], _ :: _ => Iff.rfl
  | _ :: _, [] => Iff.rfl

/-- What the call owns: a box of a type with these cells; a row (the type of its elements, their size, how many they are by now). -/
inductive Own where
  | box (ty : TypeId) (cs : List TV)
  | row (ty : TypeId) (sz len : Nat)
def Ok1 (w : World) (s : Sb) (g : Gh) (k : Nat) : Own → Prop
  | .box ty cs => ∃ N vs, g.bx k = some N ∧ w.heap[N]? = some (.cells (List.toArray vs) ty (0, 0)) ∧ AllT w s g cs vs ∧ (∀ d ∈ cs, d.one = true) ∧ ∀ o, ¬ s N o
  | .row ty sz len => (∀ m, len < m → g.gn k m = none) ∧ ∃ v, g.gn k len = some v ∧ ((v = .slice none 0 0 ∧ len = 0) ∨
      ∃ G cap cur, v = .slice (some ⟨G, 0, none⟩) len cap ∧ w.heap[G]? = some (.cells cur ty (0, 0)) ∧ len ≤ cap ∧ cap ≤ maxLen ∧ cur.size = cap * sz ∧ ∀ o, len * sz ≤ o → ¬ s G o)
def blk (g : Gh) (k : Nat) : Own → Option Nat
  | .box _ _ => g.bx k
  | .row _ _ len => (g.gn k len).bind Value.ownBlock
theorem Ok1.lt {w : World} {s : Sb} {g : Gh} {k : Nat} {c : Own} (h : Ok1 w s g k c) {N : Nat} (hb : blk g k c = some N) : N < w.heap.size := by
  match c, h, hb with
  | .box ty cs, ⟨M, vs, h1, h2, _⟩, hb =>
    have e : some M = some N := h1.symm.trans hb
    cases e
    exact (Array.getElem?_eq_some_iff.1 h2).1
  | .row ty sz len, ⟨_, v, h1, h2⟩, hb =>
    have hb : (g.gn k len).bind Value.ownBlock = some N := hb
    rw [h1] at hb
    rcases h2 with ⟨rfl, _⟩ | ⟨G, cap, cur, rfl, h3, _⟩
    · cases hb
    · have e : some G = some N := hb
      cases e
      exact (Array.getElem?_eq_some_iff.1 h3).1
/-- What is owned stays where its block is not written, and none of its cells is told to stay. -/
theorem Ok1.keep {w w' : World} {s s' : Sb} {g g' : Gh} {k : Nat} {c : Own} (h : Ok1 w s g k c) (hx : Ex w s w' s') (hg : GLe g g') (hk : ∀ m, g'.gn k m = g.gn k m) (hh : ∀ N, blk g k c = some N → w'.heap[N]? = w.heap[N]?) (hs : ∀ N o, blk g k c = some N → s' N o → s N o) : Ok1 w' s' g' k c := by
  match c, h, hh, hs with
  | .box ty cs, ⟨N, vs, h1, h2, h3, h4, h5⟩, hh, hs => exact ⟨N, vs, hg.bx _ _ h1, (hh N h1).trans h2, h3.mono hx hg, h4, fun o ho => h5 o (hs N o h1 ho)⟩
  | .row ty sz len, ⟨h0, v, h1, h2⟩, hh, hs =>
    refine ⟨fun m hm => (hk m).trans (h0 m hm), v, hg.gn _ _ _ h1, ?_⟩
    rcases h2 with h2 | ⟨G, cap, cur, rfl, h3, h4, h5, h6, h7⟩
    · exact .inl h2
    · have hb : blk g k (.row ty sz len) = some G := by show (g.gn k len).bind Value.ownBlock = some G; rw [h1]; rfl
      exact .inr ⟨G, cap, cur, rfl, (hh G hb).trans h3, h4, h5, h6, fun o ho hso => h7 o ho (hs G o hb hso)⟩
theorem blk_keep {w : World} {s : Sb} {g g' : Gh} {k : Nat} {c : Own} (h : Ok1 w s g k c) (hg : GLe g g') : blk g' k c = blk g k c := by
  match c, h with
  | .box ty cs, ⟨N, vs, h1, _⟩ => exact (hg.bx _ _ h1).trans h1.symm
  | .row ty sz len, ⟨_, v, h1, _⟩ => show (g'.gn k len).bind Value.ownBlock = (g.gn k len).bind Value.ownBlock; rw [h1, hg.gn _ _ _ h1]

/-- The first entry under a number. -/
def fnd {α : Type} (k : Nat) : List (Nat × α) → Option α
  | [] => none
  | x :: l => match Nat.beq x.1 k with | true => some x.2 | false => fnd k l
theorem fnd_cons {α : Type} (k j : Nat) (x : α) (l : List (Nat × α)) : fnd k ((j, x) :: l) = if j = k then some x else fnd k l := by
  show (match Nat.beq j k with | true => some x | false => fnd k l) = _
  by_cases h : j = k
  · subst h
    rw [if_pos rfl, show Nat.beq j j = true from Nat.beq_refl j]
  · have hb : Nat.beq j k = false := by
      cases hb : Nat.beq j k with
      | false => rfl
      | true => exact absurd (Nat.eq_of_beq_eq_true hb) h
    rw [hb, if_neg h]
theorem fnd_append {α : Type} (k : Nat) : ∀ (l r : List (Nat × α)), fnd k (l ++ r) = match fnd k l with | some x => some x | none => fnd k r
  | [], _ => rfl
  | (j, x) :: l, r => by
    rw [List.cons_append, fnd_cons, fnd_cons]
    by_cases h : j = k
    · simp [h]
    · simp only [h, if_false]; exact fnd_append k l r
theorem fnd_mem {α : Type} {k : Nat} {x : α} : ∀ {l : List (Nat × α)}, fnd k l = some x → (k, x) ∈ l
  | [], h => by cases h
  | (j, y) :: l, h => by
    rw [fnd_cons] at h
    by_cases hj : j = k
    · subst hj; simp at h; subst h; simp
    · simp only [hj, if_false] at h; exact List.mem_cons_of_mem _ (fnd_mem h)
theorem fnd_none {α : Type} {k : Nat} : ∀ {l : List (Nat × α)}, fnd k l = none → ∀ x, (k, x) ∉ l
  | [], _, _, h => by cases h
  | (j, y) :: l, hn, x, h => by
    rw [fnd_cons] at hn
    by_cases hj : j = k
    · simp [hj] at hn
    · simp only [hj, if_false] at hn
      rcases List.mem_cons.1 h with e | e
      · cases e; exact hj rfl
      · exact fnd_none hn x e

/-- A state: temporaries, what is owned, the first number that is free. -/
structure Ste where
  tm : List (Nat × TV)
  ow : List (Nat × Own)
  nx : Nat
/-- Where the call began, and the blocks that it may turn. -/
structure Ba where
  w0 : World
  s0 : Sb
  mx : Nat → Prop
  sz : Nat
structure Kp (b : Ba) (w : World) (s : Sb) : Prop where
  ex : Ex b.w0 b.s0 w s
  st : ∀ B o, s B o → b.s0 B o ∨ b.w0.heap.size ≤ B ∨ b.mx B
  os : w.os = b.w0.os
  tape : w.tape = b.w0.tape
  output : w.output = b.w0.output
  size : b.w0.heap.size ≤ w.heap.size
  block : ∀ k, k < b.w0.heap.size → ¬ b.mx k → w.heap[k]? = b.w0.heap[k]?
  gl : Glb b.w0 b.s0
theorem Kp.gb {b : Ba} {w : World} {s : Sb} (h : Kp b w s) : Glb w s := h.gl.mono h.ex
structure Rel (b : Ba) (w : World) (s : Sb) (g : Gh) (S : Ste) (a : Act) : Prop where
  kp : Kp b w s
  lt : ∀ B o, s B o → B < w.heap.size
  sz : a.tmps.size = b.sz
  tm : ∀ t d, fnd t S.tm = some d → ∃ v, a.tmps[t]? = some v ∧ d.P w s g v
  ow : ∀ k c, fnd k S.ow = some c → Ok1 w s g k c ∧ ∀ N, blk g k c = some N → b.w0.heap.size ≤ N ∨ b.mx N
  sep : ∀ k k' c c' N, fnd k S.ow = some c → fnd k' S.ow = some c' → k ≠ k' → blk g k c = some N → blk g k' c' ≠ some N
  fr : ∀ k, S.nx ≤ k → g.bx k = none ∧ ∀ m, g.gn k m = none
  df : a.defers = []

/-- What an operation does beyond its value: acc is what it owns before, acc' behind. -/
structure Stp (w : World) (s : Sb) (g : Gh) (acc : List (Nat × Own)) (w' : World) (s' : Sb) (g' : Gh) (acc' : List (Nat × Own)) : Prop where
  ex : Ex w s w' s'
  lt : ∀ B o, s' B o → B < w'.heap.size
  gle : GLe g g'
  same : ∀ k, fnd k acc' = none → g'.bx k = g.bx k ∧ ∀ m, g'.gn k m = g.gn k m
  os : w'.os = w.os
  tape : w'.tape = w.tape
  output : w'.output = w.output
  size : w.heap.size ≤ w'.heap.size
  block : ∀ N, N < w.heap.size → (∀ k c, fnd k acc = some c → blk g k c ≠ some N) → w'.heap[N]? = w.heap[N]?
  st : ∀ B o, s' B o → s B o ∨ w.heap.size ≤ B ∨ ∃ k c, fnd k acc = some c ∧ blk g k c = some B
  ok : ∀ k c, fnd k acc' = some c → Ok1 w' s' g' k c
  nb : ∀ k c N, fnd k acc' = some c → blk g' k c = some N → w.heap.size ≤ N ∨ ∃ k0 c0, fnd k0 acc = some c0 ∧ blk g k0 c0 = some N
  sep : ∀ k k' c c' N, fnd k acc' = some c → fnd k' acc' = some c' → k ≠ k' → blk g' k c = some N → blk g' k' c' ≠ some N
  all : ∀ k c, fnd k acc = some c → ∃ c', fnd k acc' = some c'
theorem Stp.refl (w : World) (s : Sb) (g : Gh) (hl : ∀ B o, s B o → B < w.heap.size) : Stp w s g [] w s g [] :=
  ⟨Ex.refl w s, hl, GLe.refl g, fun _ _ => ⟨rfl, fun _ => rfl⟩, rfl, rfl, rfl, Nat.le_refl _, fun _ _ _ => rfl, fun _ _ h => .inl h, (fun _ _ h => by cases h), (fun _ _ _ h => by cases h), (fun _ _ _ _ _ h => by cases h), (fun _ _ h => by cases h)⟩

/-- The state behind an operation. -/
def Ste.aft (S : Ste) (dst : Option Tmp) (out : TV) (acc' : List (Nat × Own)) (nx : Nat) : Ste :=
  ⟨match dst with | some d => (d, out) :: S.tm | none => S.tm, acc' ++ S.ow, nx⟩
theorem put_tm (a : Act) (d : Tmp) (v : Value) (t : Nat) (h : d < a.tmps.size) : (a.put (some d) v).tmps[t]? = if d = t then some v else a.tmps[t]? := by
  simp only [Act.put, Array.getElem?_setIfInBounds, h, if_true]
/-- A step keeps the relation. -/
theorem Rel.step {b : Ba} {w w' : World} {s s' : Sb} {g g' : Gh} {S : Ste} {a : Act} {acc acc' : List (Nat × Own)} {dst : Option Tmp} {out : TV} {v : Value} {nx : Nat}
    (h : Rel b w s g S a) (hp : Stp w s g acc w' s' g' acc') (ha : ∀ k c, fnd k acc = some c → fnd k S.ow = some c) (hn : ∀ k c, fnd k acc' = some c → (∃ c0, fnd k acc = some c0) ∨ S.nx ≤ k)
    (hnx : S.nx ≤ nx) (hnk : ∀ k c, fnd k acc' = some c → k < nx) (hd : ∀ d, dst = some d → d < b.sz) (ho : out.P w' s' g' v) : Rel b w' s' g' (S.aft dst out acc' nx) (a.put dst v) := by
  have hrest : ∀ k c, fnd k acc' = none → fnd k S.ow = some c → Ok1 w' s' g' k c ∧ blk g' k c = blk g k c ∧ ∀ k0 c0 N, fnd k0 acc = some c0 → blk g k c = some N → blk g k0 c0 ≠ some N := by
    intro k c hk hc
    have h1 := (h.ow k c hc).1
    have hne : ∀ k0 c0 N, fnd k0 acc = some c0 → blk g k c = some N → blk g k0 c0 ≠ some N := by
      intro k0 c0 N h0 hb
      have hkk : k0 ≠ k := by
        rintro rfl
        obtain ⟨c', hc'⟩ := hp.all k0 c0 h0
        rw [hk] at hc'; cases hc'
      exact h.sep k k0 c c0 N hc (ha k0 c0 h0) (Ne.symm hkk) hb
    refine ⟨h1.keep hp.ex hp.gle (hp.same k hk).2 (fun N hb => hp.block N (h1.lt hb) fun k0 c0 h0 => hne k0 c0 N h0 hb) (fun N o hb hs => ?_), blk_keep h1 hp.gle, hne⟩
    rcases hp.st N o hs with h2 | h2 | ⟨k0, c0, h0, h2⟩
    · exact h2
    · have := h1.lt hb; omega
    · exact absurd h2 (hne k0 c0 N h0 hb)
  have hfnd : ∀ k c, fnd k (S.aft dst out acc' nx).ow = some c → fnd k acc' = some c ∨ (fnd k acc' = none ∧ fnd k S.ow = some c) := by
    intro k c hc
    have : (S.aft dst out acc' nx).ow = acc' ++ S.ow := rfl
    rw [this, fnd_append] at hc
    cases hk : fnd k acc' with
    | none => rw [hk] at hc; exact .inr ⟨rfl, hc⟩
    | some c' => rw [hk] at hc; exact .inl hc
  refine ⟨⟨h.kp.ex.trans hp.ex, fun B o hs => ?_, hp.os.trans h.kp.os, hp.tape.trans h.kp.tape, hp.output.trans h.kp.output, Nat.le_trans h.kp.size hp.size, fun k hk hm => ?_, h.kp.gl⟩, hp.lt, ?_, ?_, ?_, ?_, ?_, ?_⟩
  · rcases hp.st B o hs with h1 | h1 | ⟨k0, c0, h0, h1⟩
    · exact h.kp.st B o h1
    · exact .inr (.inl (Nat.le_trans h.kp.size h1))
    · exact .inr ((h.ow k0 c0 (ha k0 c0 h0)).2 B h1)
  · refine (hp.block k (Nat.lt_of_lt_of_le hk h.kp.size) fun k0 c0 h0 hb => ?_).trans (h.kp.block k hk hm)
    rcases (h.ow k0 c0 (ha k0 c0 h0)).2 k hb with h1 | h1
    · omega
    · exact hm h1
  · rw [← h.sz]; cases dst <;> simp [Act.put]
  · intro t d hf
    cases dst with
    | none =>
      obtain ⟨u, hu, hd'⟩ := h.tm t d hf
      exact ⟨u, hu, TV.mono hp.ex hp.gle hd'⟩
    | some e =>
      have hf' : fnd t ((e, out) :: S.tm) = some d := hf
      rw [put_tm a e v t (by rw [h.sz]; exact hd e rfl)]
      rw [fnd_cons] at hf'
      by_cases het : e = t
      · simp only [het, if_true] at hf' ⊢
        cases hf'
        exact ⟨v, rfl, ho⟩
      · simp only [het, if_false] at hf' ⊢
        obtain ⟨u, hu, hd'⟩ := h.tm t d hf'
        exact ⟨u, hu, TV.mono hp.ex hp.gle hd'⟩
  · intro k c hc
    rcases hfnd k c hc with h1 | ⟨h1, h2⟩
    · refine ⟨hp.ok k c h1, fun N hb => ?_⟩
      rcases hp.nb k c N h1 hb with h3 | ⟨k0, c0, h0, h3⟩
      · exact .inl (Nat.le_trans h.kp.size h3)
      · exact (h.ow k0 c0 (ha k0 c0 h0)).2 N h3
    · obtain ⟨h3, h4, _⟩ := hrest k c h1 h2
      exact ⟨h3, fun N hb => (h.ow k c h2).2 N (h4 ▸ hb)⟩
  · intro k k' c c' N hc hc' hne hb hb'
    rcases hfnd k c hc with h1 | ⟨h1, h2⟩ <;> rcases hfnd k' c' hc' with h1' | ⟨h1', h2'⟩
    · exact hp.sep k k' c c' N h1 h1' hne hb hb'
    · obtain ⟨h3, h4, h5⟩ := hrest k' c' h1' h2'
      rw [h4] at hb'
      rcases hp.nb k c N h1 hb with h6 | ⟨k0, c0, h0, h6⟩
      · have := (h.ow k' c' h2').1.lt hb'; omega
      · exact h5 k0 c0 N h0 hb' h6
    · obtain ⟨h3, h4, h5⟩ := hrest k c h1 h2
      rw [h4] at hb
      rcases hp.nb k' c' N h1' hb' with h6 | ⟨k0, c0, h0, h6⟩
      · have := (h.ow k c h2).1.lt hb; omega
      · exact h5 k0 c0 N h0 hb h6
    · obtain ⟨h3, h4, _⟩ := hrest k c h1 h2
      obtain ⟨h3', h4', _⟩ := hrest k' c' h1' h2'
      rw [h4] at hb
      rw [h4'] at hb'
      exact h.sep k k' c c' N h2 h2' hne hb hb'
  · intro k hk
    have hk' : nx ≤ k := hk
    have hnone : fnd k acc' = none := by
      cases hf : fnd k acc' with
      | none => rfl
      | some c => have := hnk k c hf; omega
    obtain ⟨e1, e2⟩ := hp.same k hnone
    obtain ⟨f1, f2⟩ := h.fr k (Nat.le_trans hnx hk')
    exact ⟨e1.trans f1, fun m => (e2 m).trans (f2 m)⟩
  · rw [← h.df]; cases dst <;> rfl
end Go.Proofs.YtfkaepjlmgolhaaGreatDoor

/- Abstract execution: the operations. Nothing here speaks of the program. -/
namespace Go.Proofs.YtfkaepjlmgolhaaGreatDoor
open Go.RowKit

/-- What an operand reads as. -/
def Opd (tm : List (Nat × TV)) : Operand → TV → Prop
  | .tmp t, d => fnd t tm = some d
  | .const v, d => .pv (PV.lit v) = d
  | .global n, d => .pv (PV.lit (.pointer (some ⟨n, 0, none⟩))) = d
  | .func f, d => .pv (PV.lit (.func (.func f) #[] #[])) = d
def TmOk (w : World) (s : Sb) (g : Gh) (tm : List (Nat × TV)) (a : Act) : Prop := ∀ t d, fnd t tm = some d → ∃ v, a.tmps[t]? = some v ∧ d.P w s g v
theorem Opd.eval {w : World} {s : Sb} {g : Gh} {tm : List (Nat × TV)} {a : Act} (h : TmOk w s g tm a) {x : Operand} {d : TV} (hx : Opd tm x d) : d.P w s g (a.eval x) := by
  cases x with
  | tmp t =>
    obtain ⟨v, h1, h2⟩ := h t d hx
    show d.P w s g (a.tmps.getD t undef)
    rw [Array.getD_eq_getD_getElem?, h1]
    exact h2
  | const v => have e : _ = d := hx; subst e; rfl
  | global n => have e : _ = d := hx; subst e; rfl
  | func f => have e : _ = d := hx; subst e; rfl
theorem Opd.lit {w : World} {s : Sb} {g : Gh} {tm : List (Nat × TV)} {a : Act} (h : TmOk w s g tm a) {x : Operand} {v : Value} (hx : Opd tm x (.pv (PV.lit v))) : a.eval x = v := Opd.eval h hx

structure Good (w : World) (s : Sb) (g : Gh) (acc : List (Nat × Own)) (acc' : List (Nat × Own)) : Prop where
  lt : ∀ B o, s B o → B < w.heap.size
  ok : ∀ k c, fnd k acc = some c → Ok1 w s g k c
  sep : ∀ k k' c c' N, fnd k acc = some c → fnd k' acc = some c' → k ≠ k' → blk g k c = some N → blk g k' c' ≠ some N
  fr : ∀ k c, fnd k acc' = some c → fnd k acc = none → g.bx k = none ∧ ∀ m, g.gn k m = none
  gl : Glb w s
/-- An operation's rule: from these temporaries and what it owns it leaves out and acc'. -/
def UOp (P : Program) (o : Oper) (tm : List (Nat × TV)) (acc : List (Nat × Own)) (out : TV) (acc' : List (Nat × Own)) : Prop :=
  ∀ (w : World) (s : Sb) (g : Gh) (a : Act) (K : Act → World → Prop) (Q : Exit → Act → World → Prop), TmOk w s g tm a → Good w s g acc acc' →
    (∀ w' s' g' v, out.P w' s' g' v → Stp w s g acc w' s' g' acc' → K (a.put o.dst v) w') → o.wp P a w K Q
theorem UOp.pure {P : Program} {o : Oper} {tm : List (Nat × TV)} {out : TV}
    (h : ∀ w s g a, TmOk w s g tm a → ∃ v, (execOp a.eval o).run P w = .ok (.value v) w ∧ out.P w s g v) : UOp P o tm [] out [] := by
  intro w s g a K Q ht hg hK
  obtain ⟨v, h1, h2⟩ := h w s g a ht
  unfold Oper.wp
  rw [h1]
  exact hK w s g v h2 (Stp.refl w s g hg.lt)

theorem UOp.two {P : Program} {o : Oper} {tm : List (Nat × TV)} {x y : Operand} {u v r : Value} (hx : Opd tm x (.pv (PV.lit u))) (hy : Opd tm y (.pv (PV.lit v)))
    (h : ∀ (ρ : Operand → Value) (w : World), ρ x = u → ρ y = v → (execOp ρ o).run P w = .ok (.value r) w) : UOp P o tm [] (.pv (PV.lit r)) [] :=
  UOp.pure fun w _ _ a ht => ⟨r, h a.eval w (Opd.lit ht hx) (Opd.lit ht hy), rfl⟩
section
variable {P : Program} {tm : List (Nat × TV)} {dst : Option Tmp} {ty : TypeId} {pos : String} {aft : Array Edge} {gd : Option (Nat × Bool)}
theorem u_move {x : Operand} {d : TV} (hx : Opd tm x d) : UOp P ⟨dst, .move x, ty, pos, aft, gd⟩ tm [] d [] :=
  UOp.pure fun _ _ _ a h => ⟨a.eval x, rfl, hx.eval h⟩
theorem u_assign {x : Operand} {d : TV} (hx : Opd tm x d) : UOp P ⟨dst, .assign x, ty, pos, aft, gd⟩ tm [] d [] :=
  UOp.pure fun _ _ _ a h => ⟨a.eval x, rfl, hx.eval h⟩
theorem u_pick {c x y : Operand} {b : Bool} {d : TV} (hc : Opd tm c (.pv (PV.lit (.bool b)))) (h : if b then Opd tm x d else Opd tm y d) : UOp P ⟨dst, .pick c x y, ty, pos, aft, gd⟩ tm [] d [] :=
  UOp.pure fun w s g a ht => by
    have hb := Opd.lit ht hc
    cases b with
    | true => exact ⟨a.eval x, by simp [execOp, hb, asBool], Opd.eval ht h⟩
    | false => exact ⟨a.eval y, by simp [execOp, hb, asBool], Opd.eval ht h⟩
/-- A choice between two Booleans. -/
theorem u_pickB {c x y : Operand} {b b1 b2 : Bool} (hc : Opd tm c (.pv (PV.lit (.bool b)))) (h1 : Opd tm x (.pv (PV.lit (.bool b1)))) (h2 : Opd tm y (.pv (PV.lit (.bool b2)))) : UOp P ⟨dst, .pick c x y, ty, pos, aft, gd⟩ tm [] (.pv (PV.lit (.bool (if b then b1 else b2)))) [] :=
  UOp.pure fun w s g a ht => by
    have hb := Opd.lit ht hc
    have hx := Opd.lit ht h1
    have hy := Opd.lit ht h2
    cases b with
    | true => exact ⟨_, by simp only [execOp, hb, hx]; rfl, rfl⟩
    | false => exact ⟨_, by simp only [execOp, hb, hy]; rfl, rfl⟩
theorem u_not {x : Operand} {t : TypeId} {b : Bool} (hx : Opd tm x (.pv (PV.lit (.bool b)))) : UOp P ⟨dst, .unOp .not t x, ty, pos, aft, gd⟩ tm [] (.pv (PV.lit (.bool (!b)))) [] :=
  UOp.pure fun w s g a ht => by
    have hb := Opd.lit ht hx
    exact ⟨_, by simp only [execOp, hb]; rfl, rfl⟩
section ints
variable {x y : Operand} {t u : TypeId} {k : IntKind} {n m : Int}
theorem u_lss (hx : Opd tm x (.pv (PV.lit (.int k n)))) (hy : Opd tm y (.pv (PV.lit (.int k m)))) : UOp P ⟨dst, .binOp .lss t x y u, ty, pos, aft, gd⟩ tm [] (.pv (PV.lit (.bool (decide (n < m))))) [] :=
  UOp.two hx hy fun ρ w h1 h2 => by simp [execOp, h1, h2, go_sem]
theorem u_leq (hx : Opd tm x (.pv (PV.lit (.int k n)))) (hy : Opd tm y (.pv (PV.lit (.int k m)))) : UOp P ⟨dst, .binOp .leq t x y u, ty, pos, aft, gd⟩ tm [] (.pv (PV.lit (.bool (decide (n ≤ m))))) [] :=
  UOp.two hx hy fun ρ w h1 h2 => by simp [execOp, h1, h2, go_sem]
theorem u_gtr (hx : Opd tm x (.pv (PV.lit (.int k n)))) (hy : Opd tm y (.pv (PV.lit (.int k m)))) : UOp P ⟨dst, .binOp .gtr t x y u, ty, pos, aft, gd⟩ tm [] (.pv (PV.lit (.bool (decide (m < n))))) [] :=
  UOp.two hx hy fun ρ w h1 h2 => by simp [execOp, h1, h2, go_sem]
theorem u_geq (hx : Opd tm x (.pv (PV.lit (.int k n)))) (hy : Opd tm y (.pv (PV.lit (.int k m)))) : UOp P ⟨dst, .binOp .geq t x y u, ty, pos, aft, gd⟩ tm [] (.pv (PV.lit (.bool (decide (m ≤ n))))) [] :=
  UOp.two hx hy fun ρ w h1 h2 => by simp [execOp, h1, h2, go_sem]
theorem u_eql (hx : Opd tm x (.pv (PV.lit (.int k n)))) (hy : Opd tm y (.pv (PV.lit (.int k m)))) : UOp P ⟨dst, .binOp .eql t x y u, ty, pos, aft, gd⟩ tm [] (.pv (PV.lit (.bool (decide (n = m))))) [] :=
  UOp.two hx hy fun ρ w h1 h2 => by simp [execOp, h1, h2, go_sem]; rfl
theorem u_neq (hx : Opd tm x (.pv (PV.lit (.int k n)))) (hy : Opd tm y (.pv (PV.lit (.int k m)))) : UOp P ⟨dst, .binOp .neq t x y u, ty, pos, aft, gd⟩ tm [] (.pv (PV.lit (.bool (!decide (n = m))))) [] :=
  UOp.two hx hy fun ρ w h1 h2 => by simp [execOp, h1, h2, go_sem]; rfl
theorem u_add (hx : Opd tm x (.pv (PV.lit (.int k n)))) (hy : Opd tm y (.pv (PV.lit (.int k m)))) (h : k.wrap (n + m) = n + m) : UOp P ⟨dst, .binOp .add t x y u, ty, pos, aft, gd⟩ tm [] (.pv (PV.lit (.int k (n + m)))) [] :=
  UOp.two hx hy fun ρ w h1 h2 => by simp [execOp, h1, h2, go_sem, h]
theorem u_sub (hx : Opd tm x (.pv (PV.lit (.int k n)))) (hy : Opd tm y (.pv (PV.lit (.int k m)))) (h : k.wrap (n - m) = n - m) : UOp P ⟨dst, .binOp .sub t x y u, ty, pos, aft, gd⟩ tm [] (.pv (PV.lit (.int k (n - m)))) [] :=
  UOp.two hx hy fun ρ w h1 h2 => by simp [execOp, h1, h2, go_sem, h]
theorem u_mul (hx : Opd tm x (.pv (PV.lit (.int k n)))) (hy : Opd tm y (.pv (PV.lit (.int k m)))) (h : k.wrap (n * m) = n * m) : UOp P ⟨dst, .binOp .mul t x y u, ty, pos, aft, gd⟩ tm [] (.pv (PV.lit (.int k (n * m)))) [] :=
  UOp.two hx hy fun ρ w h1 h2 => by simp [execOp, h1, h2, go_sem, h]
end ints
theorem str_beq (p q : ByteArray) : (p.toList == q.toList) = decide (p = q) := by
  rw [Bool.eq_iff_iff]
  simp only [beq_iff_eq, decide_eq_true_eq]
  constructor
  · intro h
    rw [ByteArray.toList_eq, ByteArray.toList_eq] at h
    exact ByteArray.ext (Array.toList_inj.1 h)
  · intro h; rw [h]
section bools
variable {x y : Operand} {t u : TypeId} {n m : Bool} {p q : ByteArray}
theorem u_eqlB (ht' : P.underlying t = some .bool) (hx : Opd tm x (.pv (PV.lit (.bool n)))) (hy : Opd tm y (.pv (PV.lit (.bool m)))) : UOp P ⟨dst, .binOp .eql t x y u, ty, pos, aft, gd⟩ tm [] (.pv (PV.lit (.bool (n == m)))) [] :=
  UOp.two hx hy fun ρ w h1 h2 => by simp [execOp, h1, h2, go_sem, ht']
theorem u_neqB (ht' : P.underlying t = some .bool) (hx : Opd tm x (.pv (PV.lit (.bool n)))) (hy : Opd tm y (.pv (PV.lit (.bool m)))) : UOp P ⟨dst, .binOp .neq t x y u, ty, pos, aft, gd⟩ tm [] (.pv (PV.lit (.bool (n != m)))) [] :=
  UOp.two hx hy fun ρ w h1 h2 => by simp [execOp, h1, h2, go_sem, ht']; cases n <;> cases m <;> rfl
theorem u_eqlS (hx : Opd tm x (.pv (PV.lit (.string p)))) (hy : Opd tm y (.pv (PV.lit (.string q)))) : UOp P ⟨dst, .binOp .eql t x y u, ty, pos, aft, gd⟩ tm [] (.pv (PV.lit (.bool (decide (p = q))))) [] :=
  UOp.two hx hy fun ρ w h1 h2 => by simp [execOp, h1, h2, go_sem, str_beq]
theorem u_neqS (hx : Opd tm x (.pv (PV.lit (.string p)))) (hy : Opd tm y (.pv (PV.lit (.string q)))) : UOp P ⟨dst, .binOp .neq t x y u, ty, pos, aft, gd⟩ tm [] (.pv (PV.lit (.bool (!decide (p = q))))) [] :=
  UOp.two hx hy fun ρ w h1 h2 => by simp [execOp, h1, h2, go_sem, str_beq]
end bools
theorem u_extract {x : Operand} {i : Nat} {l : List PV} {d : PV} (hx : Opd tm x (.pv (PV.tup l))) (hd : l[i]? = some d) : UOp P ⟨dst, .extract x i, ty, pos, aft, gd⟩ tm [] (.pv d) [] :=
  UOp.pure fun w s g a ht => by
    obtain ⟨vs, h1, h2⟩ := Opd.eval ht hx
    obtain ⟨v, h3, h4⟩ := h2.get hd
    exact ⟨v, by simp [execOp, h1, Instr.extract, h3], h4⟩
end
end Go.Proofs.YtfkaepjlmgolhaaGreatDoor

/- Abstract execution: boxes, loads, stores, addresses, lengths. Nothing here speaks of the program. -/
namespace Go.Proofs.YtfkaepjlmgolhaaGreatDoor
open Go.RowKit

/-- Types of one cell; types of several (structs, arrays). -/
structure OneT (P : Program) (t : TypeId) : Prop where
  und : ∃ d, P.underlying t = some d ∧ d.isRow = false
  size : (P.info? t).map (·.size) = some 1
structure RowT (P : Program) (t : TypeId) (n : Nat) : Prop where
  und : ∃ d, P.underlying t = some d ∧ d.isRow = true
  size : (P.info? t).map (·.size) = some n
theorem sizeOf_run {P : Program} {t : TypeId} {n : Nat} (h : (P.info? t).map (·.size) = some n) (w : World) : (sizeOf t).run P w = .ok n w := by
  cases hq : P.info? t with
  | none => simp [hq] at h
  | some i =>
    have hs : i.size = n := by simpa [hq] using h
    simp [sizeOf, typeInfo, hq, hs]
theorem OneT.load {P : Program} {t : TypeId} (h : OneT P t) {w : World} {b o : Nat} {v : Value} (hc : w.cell? ⟨b, o, none⟩ = some v) : (Instr.loadAt t (.pointer (some ⟨b, o, none⟩))).run P w = .ok v w := by
  obtain ⟨d, hu, hd⟩ := h.und
  have hagg : (isAgg t).run P w = .ok false w := by
    unfold isAgg
    rw [Sem.run_bind, run_underlying hu w]
    cases d <;> simp_all
  simp [Instr.loadAt, Instr.sureAddr, loadVar, hagg, hc]
theorem RowT.load {P : Program} {t : TypeId} {n : Nat} (h : RowT P t n) {w : World} {b o : Nat} {cs : List Value} (hl : cs.length = n) (hc : w.rangeAt b o cs) : (Instr.loadAt t (.pointer (some ⟨b, o, none⟩))).run P w = .ok (.agg cs.toArray) w := by
  obtain ⟨d, hu, hd⟩ := h.und
  exact run_loadAt_mid w b o t cs d hc hu hd (by rw [hl]; exact h.size)
theorem OneT.store {P : Program} {t : TypeId} (h : OneT P t) {w : World} {b o : Nat} {v u : Value} (hc : w.cell? ⟨b, o, none⟩ = some u) (hf : w.frozen? ⟨b, o, none⟩ = false) (h1 : v.oneCell' = true) : (Instr.storeAt t (.pointer (some ⟨b, o, none⟩)) v).run P w = .ok () (w.setCell ⟨b, o, none⟩ v) := by
  have hv : v.cells = #[v] := by cases v <;> first | rfl | (simp [Value.oneCell'] at h1)
  have hst : (_root_.Go.store ⟨b, o, none⟩ v).run P w = .ok () (w.setCell ⟨b, o, none⟩ v) := by rw [run_store P w _ v _ h1, hc]; simp [hf]
  have ha : (⟨b, o, none⟩ : Addr).add 0 = ⟨b, o, none⟩ := rfl
  simp [Instr.storeAt, Instr.sureAddr, storeVar, sizeOf_run h.size, hv, storeCells, ha, hst]

/-- A step that only makes a block, which it owns as box k. -/
theorem Stp.newBox {w : World} {s : Sb} {g : Gh} {k : Nat} {t : TypeId} {cs : List TV} {vs : List Value} (hl : ∀ B o, s B o → B < w.heap.size) (hf : g.bx k = none ∧ ∀ m, g.gn k m = none)
    (hv : AllT w s g cs vs) (h1 : ∀ d ∈ cs, d.one = true) :
    Stp w s g [] (w.alloc (.cells vs.toArray t (0, 0))) s { g with bx := fun j => if j = k then some w.heap.size else g.bx j } [(k, .box t cs)] := by
  have hx : Ex w s (w.alloc (.cells vs.toArray t (0, 0))) s := ⟨fun _ _ h => h, fun b o h => by rw [World.cell?_alloc_lt _ _ _ (hl b o h)]⟩
  have hg : GLe g { g with bx := fun j => if j = k then some w.heap.size else g.bx j } := ⟨fun j N h => by
    by_cases e : j = k
    · subst e; rw [hf.1] at h; cases h
    · simp [e, h], fun _ _ _ h => h⟩
  have hk : ∀ {j : Nat} {c : Own}, fnd j [(k, (.box t cs : Own))] = some c → j = k ∧ c = .box t cs := by
    intro j c h
    rw [fnd_cons] at h
    by_cases e : k = j
    · simp only [e, if_true] at h; cases h; exact ⟨e.symm, rfl⟩
    · simp only [e, if_false] at h; cases h
  refine ⟨hx, fun B o h => ?_, hg, fun j h => ?_, rfl, rfl, rfl, by simp, fun N hN _ => ?_, fun _ _ h => .inl h, fun j c h => ?_, fun j c N h hb => ?_, fun j j' c c' N h h' hne => ?_, fun j c h => by cases h⟩
  · have := hl B o h; simp; omega
  · rw [fnd_cons] at h
    by_cases e : k = j
    · simp [e] at h
    · exact ⟨by simp [Ne.symm e], fun _ => rfl⟩
  · exact Below.heap_alloc w _ N hN
  · obtain ⟨rfl, rfl⟩ := hk h
    exact ⟨w.heap.size, vs, by simp, heap_alloc_new w _, hv.mono hx hg, h1, fun o ho => Nat.lt_irrefl _ (hl _ o ho)⟩
  · obtain ⟨rfl, rfl⟩ := hk h
    have : some w.heap.size = some N := by simpa [blk] using hb
    cases this
    exact .inl (Nat.le_refl _)
  · obtain ⟨rfl, rfl⟩ := hk h
    obtain ⟨rfl, rfl⟩ := hk h'
    exact absurd rfl hne
theorem AllT.inl {w : World} {s : Sb} {g : Gh} {l : List PV} {vs : List Value} (h : AllV w s l vs) : AllT w s g (l.map TV.pv) vs := AllT.pv.2 h
mutual
def TV.toPV : TV → Option PV
  | .pv d => some d
  | .bp _ _ => none
  | .own _ sz rows => some (PV.sl sz rows)
  | .gbp _ _ _ => none
  | .agg l => match TV.toPVs l with
    | some ds => some (PV.agg ds)
    | none => none
def TV.toPVs : List TV → Option (List PV)
  | [] => some []
  | d :: l => match d.toPV, TV.toPVs l with
    | some e, some r => some (e :: r)
    | _, _ => none
end
theorem toPVs_cons {d : TV} {l : List TV} {ds : List PV} (h : TV.toPVs (d :: l) = some ds) : ∃ e r, d.toPV = some e ∧ TV.toPVs l = some r ∧ ds = e :: r := by
  rw [TV.toPVs] at h
  cases h1 : d.toPV with
  | none => rw [h1] at h; simp at h
  | some e =>
    cases h2 : TV.toPVs l with
    | none => rw [h1, h2] at h; simp at h
    | some r => rw [h1, h2] at h; simp at h; exact ⟨e, r, rfl, rfl, h.symm⟩
theorem toPVs_map : ∀ {l : List TV} {ds : List PV}, l.map TV.toPV = ds.map some → TV.toPVs l = some ds
  | [], [], _ => by rw [TV.toPVs]
  | d :: l, e :: ds, h => by
    simp only [List.map_cons, List.cons.injEq] at h
    rw [TV.toPVs, h.1, toPVs_map h.2]
  | [], _ :: _, h => by simp at h
  | _ :: _, [], h => by simp at h
mutual
theorem TV.weak {w : World} {s : Sb} {g : Gh} {d : TV} {e : PV} {v : Value} (h : d.toPV = some e) (hv : d.P w s g v) : e.p w s v := by
  match d, h, hv with
  | .pv d, h, hv => rw [TV.toPV] at h; cases h; exact hv
  | .bp _ _, h, _ => rw [TV.toPV] at h; cases h
  | .own _ sz rows, h, hv => rw [TV.toPV] at h; cases h; exact hv.1
  | .gbp _ _ _, h, _ => rw [TV.toPV] at h; cases h
  | .agg l, h, hv =>
    rw [TV.toPV] at h
    rw [TV.P] at hv
    obtain ⟨vs, h1, h2⟩ := hv
    cases hl : TV.toPVs l with
    | none => rw [hl] at h; simp at h
    | some ds => rw [hl] at h; simp at h; subst h; exact ⟨vs, h1, AllT.weakS hl h2⟩
theorem AllT.weakS {w : World} {s : Sb} {g : Gh} {l : List TV} {ds : List PV} {vs : List Value} (h : TV.toPVs l = some ds) (hv : AllT w s g l vs) : AllV w s ds vs := by
  match l, vs, h, hv with
  | [], [], h, _ => rw [TV.toPVs] at h; cases h; trivial
  | d :: l, v :: vs, h, hv =>
    obtain ⟨e, r, h1, h2, rfl⟩ := toPVs_cons h
    rw [AllT] at hv
    exact ⟨TV.weak h1 hv.1, AllT.weakS h2 hv.2⟩
  | [], _ :: _, _, hv => simp [AllT] at hv
  | _ :: _, [], _, hv => simp [AllT] at hv
end
theorem AllT.weak {w : World} {s : Sb} {g : Gh} {l : List TV} {ds : List PV} {vs : List Value} (h : l.map TV.toPV = ds.map some) (hv : AllT w s g l vs) : AllV w s ds vs := AllT.weakS (toPVs_map h) hv
/-- A struct of data, as a struct of temporaries' kinds. -/
theorem TV.ofAgg {w : World} {s : Sb} {g : Gh} {l : List PV} {v : Value} (h : (PV.agg l).p w s v) : (TV.agg (l.map TV.pv)).P w s g v := by
  obtain ⟨vs, h1, h2⟩ := h
  exact ⟨vs, h1, AllT.inl h2⟩
theorem AllT.drop {w : World} {s : Sb} {g : Gh} : ∀ {l : List TV} {vs : List Value} (n : Nat), AllT w s g l vs → AllT w s g (l.drop n) (vs.drop n)
  | l, vs, 0, h => by simpa using h
  | [], [], n + 1, _ => by simp [AllT]
  | _ :: _, _ :: _, n + 1, h => by simpa using AllT.drop n h.2
  | [], _ :: _, _ + 1, h => h.elim
  | _ :: _, [], _ + 1, h => h.elim
theorem AllT.take {w : World} {s : Sb} {g : Gh} : ∀ {l : List TV} {vs : List Value} (n : Nat), AllT w s g l vs → AllT w s g (l.take n) (vs.take n)
  | l, vs, 0, h => by simp [AllT]
  | [], [], n + 1, _ => by simp [AllT]
  | _ :: _, _ :: _, n + 1, h => ⟨h.1, AllT.take n h.2⟩
  | [], _ :: _, _ + 1, h => h.elim
  | _ :: _, [], _ + 1, h => h.elim
theorem AllT.append {w : World} {s : Sb} {g : Gh} : ∀ {l r : List TV} {vs us : List Value}, AllT w s g l vs → AllT w s g r us → AllT w s g (l ++ r) (vs ++ us)
  | [], r, [], us, _, h => h
  | _ :: _, r, _ :: _, us, h, h' => ⟨h.1, AllT.append h.2 h'⟩
  | [], _, _ :: _, _, h, _ => h.elim
  | _ :: _, _, [], _, h, _ => h.elim
theorem AllT.get' {w : World} {s : Sb} {g : Gh} {l : List TV} {vs : List Value} (h : AllT w s g l vs) {j : Nat} {v : Value} (hv : vs[j]? = some v) : ∃ d, l[j]? = some d ∧ d.P w s g v := by
  have hj : j < l.length := by rw [← h.length]; exact (List.getElem?_eq_some_iff.1 hv).1
  obtain ⟨u, h1, h2⟩ := h.get (List.getElem?_eq_getElem hj)
  rw [hv] at h1; cases h1
  exact ⟨_, List.getElem?_eq_getElem hj, h2⟩
theorem AllV.toArr {w : World} {s : Sb} {l : List PV} {vs : List Value} (h : AllV w s l vs) (h1 : ∀ d ∈ l, d.one = true) : ∀ v ∈ vs, v.oneCell' = true := by
  intro v hv
  obtain ⟨j, hj⟩ := List.getElem?_of_mem hv
  have hjl : j < l.length := by rw [← h.length]; exact (List.getElem?_eq_some_iff.1 hj).1
  obtain ⟨u, h2, h3⟩ := h.get (List.getElem?_eq_getElem hjl)
  rw [hj] at h2; cases h2
  exact (l[j]).cell (h1 _ (List.getElem_mem hjl)) _ _ _ h3
/-- Reading leaves what is owned alone. -/
theorem Stp.read {w : World} {s : Sb} {g : Gh} {acc : List (Nat × Own)} (h : Good w s g acc acc) : Stp w s g acc w s g acc :=
  ⟨Ex.refl w s, h.lt, GLe.refl g, fun _ _ => ⟨rfl, fun _ => rfl⟩, rfl, rfl, rfl, Nat.le_refl _, fun _ _ _ => rfl, fun _ _ h => .inl h, h.ok, fun k c N hk hb => .inr ⟨k, c, hk, hb⟩, h.sep, fun k c hk => ⟨c, hk⟩⟩
theorem UOp.read {P : Program} {o : Oper} {tm : List (Nat × TV)} {acc : List (Nat × Own)} {out : TV}
    (h : ∀ w s g a, TmOk w s g tm a → Good w s g acc acc → ∃ v, (execOp a.eval o).run P w = .ok (.value v) w ∧ out.P w s g v) : UOp P o tm acc out acc := by
  intro w s g a K Q ht hg hK
  obtain ⟨v, h1, h2⟩ := h w s g a ht hg
  unfold Oper.wp
  rw [h1]
  exact hK w s g v h2 (Stp.read hg)

section
variable {P : Program} {tm : List (Nat × TV)} {dst : Option Tmp} {ty : TypeId} {pos : String} {aft : Array Edge} {gd : Option (Nat × Bool)}
theorem exec_value {s : Sem Value} {P : Program} {w w' : World} {v : Value} (h : s.run P w = .ok v w') : (do pure (Next.value (← s)) : Sem Next).run P w = .ok (.value v) w' := by
  simp [h]
theorem u_boxR {x : Operand} {t : TypeId} {cs : List TV} (k : Nat) (hx : Opd tm x (.agg cs)) (h1 : ∀ d ∈ cs, d.one = true) : UOp P ⟨dst, .box t x, ty, pos, aft, gd⟩ tm [] (.bp k 0) [(k, .box t cs)] := by
  intro w s g a K Q ht hg hK
  obtain ⟨vs, h2, h3⟩ := Opd.eval ht hx
  have hfr := hg.fr k (.box t cs) (by rw [fnd_cons]; simp) rfl
  have hst := Stp.newBox (t := t) (k := k) (cs := cs) hg.lt hfr h3 h1
  have hr : (execOp a.eval ⟨dst, .box t x, ty, pos, aft, gd⟩).run P w = .ok (.value (.pointer (some ⟨w.heap.size, 0, none⟩))) (w.alloc (.cells vs.toArray t (0, 0))) := by
    have h2' : a.eval x = .agg vs.toArray := h2
    simp only [execOp, h2', Instr.box, newVar, newRow, Value.cells]
    rfl
  unfold Oper.wp
  rw [hr]
  exact hK _ s _ _ ⟨w.heap.size, by simp, rfl⟩ hst
theorem u_box1 {x : Operand} {t : TypeId} {d : TV} (k : Nat) (hx : Opd tm x d) (h1 : d.one = true) : UOp P ⟨dst, .box t x, ty, pos, aft, gd⟩ tm [] (.bp k 0) [(k, .box t [d])] := by
  intro w s g a K Q ht hg hK
  have h3 := Opd.eval ht hx
  have hc := TV.cell h1 h3
  have hv : (a.eval x).cells = #[a.eval x] := by cases hq : a.eval x <;> first | rfl | (rw [hq] at hc; simp [Value.oneCell'] at hc)
  have hfr := hg.fr k (.box t [d]) (by rw [fnd_cons]; simp) rfl
  have hst := Stp.newBox (t := t) (k := k) (cs := [d]) (vs := [a.eval x]) hg.lt hfr ⟨h3, trivial⟩ (fun e he => by simp at he; subst he; exact h1)
  have hr : (execOp a.eval ⟨dst, .box t x, ty, pos, aft, gd⟩).run P w = .ok (.value (.pointer (some ⟨w.heap.size, 0, none⟩))) (w.alloc (.cells [a.eval x].toArray t (0, 0))) := by
    simp only [execOp, Instr.box, newVar, newRow, hv]
    rfl
  unfold Oper.wp
  rw [hr]
  exact hK _ s _ _ ⟨w.heap.size, by simp, rfl⟩ hst
theorem u_alloc {t : TypeId} {z : Value} (k : Nat) (hz : ∀ w, (zeroValue t).run P w = .ok z w) (h1 : z.cells.toList.all (·.oneCell') = true) : UOp P ⟨dst, .alloc t, ty, pos, aft, gd⟩ tm [] (.bp k 0) [(k, .box t (z.cells.toList.map fun v => .pv (PV.lit v)))] := by
  intro w s g a K Q ht hg hK
  have hfr := hg.fr k (.box t (z.cells.toList.map fun v => .pv (PV.lit v))) (by rw [fnd_cons]; simp) rfl
  have hall : ∀ l : List Value, AllT w s g (l.map fun v => .pv (PV.lit v)) l := fun l => by
    induction l with
    | nil => trivial
    | cons v l ih => exact ⟨rfl, ih⟩
  have hst := Stp.newBox (t := t) (k := k) hg.lt hfr (hall z.cells.toList) (fun d hd => by
    obtain ⟨v, hv, rfl⟩ := List.mem_map.1 hd
    exact List.all_eq_true.1 h1 v hv)
  have hr : (execOp a.eval ⟨dst, .alloc t, ty, pos, aft, gd⟩).run P w = .ok (.value (.pointer (some ⟨w.heap.size, 0, none⟩))) (w.alloc (.cells z.cells.toList.toArray t (0, 0))) := by
    simp only [execOp, Instr.alloc, newVar, newRow, Sem.run_bind, hz, Result.andThen]
    rfl
  unfold Oper.wp
  rw [hr]
  exact hK _ s _ _ ⟨w.heap.size, by simp, rfl⟩ hst
theorem Good.one {w : World} {s : Sb} {g : Gh} {k : Nat} {c : Own} {acc' : List (Nat × Own)} (h : Good w s g [(k, c)] acc') : Ok1 w s g k c := h.ok k c (by rw [fnd_cons]; simp)
theorem box_range {w : World} {N : Nat} {vs : List Value} {t : TypeId} (h : w.heap[N]? = some (.cells vs.toArray t (0, 0))) (o n : Nat) : w.rangeAt N o ((vs.drop o).take n) := by
  intro j v hv
  rw [cell_of_row w N (o + j) _ t (0, 0) h]
  rw [List.getElem?_take] at hv
  split at hv
  · rw [List.getElem?_drop] at hv; simpa using hv
  · cases hv
theorem u_loadB1 {x : Operand} {t bt : TypeId} {k off : Nat} {cs : List TV} {d : TV} (hT : OneT P t) (hx : Opd tm x (.bp k off)) (hd : cs[off]? = some d) : UOp P ⟨dst, .load t x, ty, pos, aft, gd⟩ tm [(k, .box bt cs)] d [(k, .box bt cs)] :=
  UOp.read fun w s g a ht hg => by
    obtain ⟨N, h1, h2⟩ := Opd.eval ht hx
    obtain ⟨M, vs, h3, h4, h5, _⟩ := hg.one
    rw [h1] at h3; cases h3
    obtain ⟨v, h6, h7⟩ := h5.get hd
    refine ⟨v, exec_value (s := Instr.loadAt t (a.eval x)) ?_, h7⟩
    rw [h2]
    exact hT.load (by rw [cell_of_row w N off _ bt (0, 0) h4]; simpa using h6)
theorem u_loadBR {x : Operand} {t bt : TypeId} {k off n : Nat} {cs : List TV} (hT : RowT P t n) (hx : Opd tm x (.bp k off)) (hl : off + n ≤ cs.length) :
    UOp P ⟨dst, .load t x, ty, pos, aft, gd⟩ tm [(k, .box bt cs)] (.agg ((cs.drop off).take n)) [(k, .box bt cs)] :=
  UOp.read fun w s g a ht hg => by
    obtain ⟨N, h1, h2⟩ := Opd.eval ht hx
    obtain ⟨M, vs, h3, h4, h5, _⟩ := hg.one
    rw [h1] at h3; cases h3
    have h6 := (h5.drop off).take n
    refine ⟨.agg ((vs.drop off).take n).toArray, exec_value (s := Instr.loadAt t (a.eval x)) ?_, _, rfl, h6⟩
    rw [h2]
    exact hT.load (by rw [h6.length]; simp; omega) (box_range h4 off n)
theorem cells_list {w : World} {s : Sb} {b o : Nat} {row : List PV} (h : CellsAt w s b o row) : ∃ vs : List Value, vs.length = row.length ∧ w.rangeAt b o vs ∧ AllV w s row vs ∧ ∀ v ∈ vs, v.oneCell' = true := by
  induction row generalizing o with
  | nil => exact ⟨[], rfl, fun j v hv => by simp at hv, trivial, fun v hv => by cases hv⟩
  | cons d row ih =>
    obtain ⟨u, h1, h2, h3, h3'⟩ := h 0 d rfl
    obtain ⟨vs, h4, h5, h6, h7⟩ := ih (o := o + 1) (h.drop 1)
    refine ⟨u :: vs, by simp [h4], fun j v hv => ?_, ⟨h3, h6⟩, fun v hv => by
      rcases List.mem_cons.1 hv with rfl | hv
      · exact h3'
      · exact h7 v hv⟩
    match j, hv with
    | 0, hv => simp at hv; subst hv; exact h1
    | j + 1, hv =>
      have := h5 j v (by simpa using hv)
      rw [show o + (j + 1) = o + 1 + j by omega]; exact this
theorem u_loadP1 {x : Operand} {t : TypeId} {row : List PV} {d : PV} (hT : OneT P t) (hx : Opd tm x (.pv (PV.pt row))) (hd : row[0]? = some d) : UOp P ⟨dst, .load t x, ty, pos, aft, gd⟩ tm [] (.pv d) [] :=
  UOp.pure fun w s g a ht => by
    obtain ⟨b, o, h1, h2⟩ := Opd.eval ht hx
    obtain ⟨u, h3, _, h4, _⟩ := h2 0 d hd
    refine ⟨u, exec_value (s := Instr.loadAt t (a.eval x)) ?_, h4⟩
    have h1' : a.eval x = .pointer (some ⟨b, o, none⟩) := h1
    rw [h1']
    exact hT.load h3
theorem u_loadPR {x : Operand} {t : TypeId} {n : Nat} {row : List PV} (hT : RowT P t n) (hx : Opd tm x (.pv (PV.pt row))) (hl : n ≤ row.length) : UOp P ⟨dst, .load t x, ty, pos, aft, gd⟩ tm [] (.pv (PV.agg (row.take n))) [] :=
  UOp.pure fun w s g a ht => by
    obtain ⟨b, o, h1, h2⟩ := Opd.eval ht hx
    have h2' : CellsAt w s b o (row.take n) := fun j d hd => h2 j d (by
      rw [List.getElem?_take] at hd
      split at hd
      · exact hd
      · cases hd)
    obtain ⟨vs, h3, h4, h5, _⟩ := cells_list h2'
    refine ⟨.agg vs.toArray, exec_value (s := Instr.loadAt t (a.eval x)) ?_, vs, rfl, h5⟩
    have h1' : a.eval x = .pointer (some ⟨b, o, none⟩) := h1
    rw [h1']
    exact hT.load (by rw [h3, List.length_take]; omega) h4
end
end Go.Proofs.YtfkaepjlmgolhaaGreatDoor

/- Abstract execution: stores, addresses of fields and elements, lengths, literals. Nothing here speaks of the program. -/
namespace Go.Proofs.YtfkaepjlmgolhaaGreatDoor
open Go.RowKit

/-- A store into a box of the call's own. -/
theorem Stp.write {w w' : World} {s : Sb} {g : Gh} {k N : Nat} {t : TypeId} {cs cs' : List TV} {vs' : List Value} (hg : Good w s g [(k, .box t cs)] [(k, .box t cs')]) (hN : g.bx k = some N)
    (hw : w'.heap[N]? = some (.cells vs'.toArray t (0, 0))) (ho : ∀ M, M ≠ N → w'.heap[M]? = w.heap[M]?) (hs : w'.heap.size = w.heap.size) (h1 : w'.os = w.os) (h2 : w'.tape = w.tape) (h3 : w'.output = w.output)
    (hv : AllT w s g cs' vs') (hone : ∀ d ∈ cs', d.one = true) : Stp w s g [(k, .box t cs)] w' s g [(k, .box t cs')] := by
  obtain ⟨M, vs, e1, e2, e3, e4, e5⟩ := hg.one
  rw [hN] at e1; cases e1
  have hx : Ex w s w' s := ⟨fun _ _ h => h, fun b o hb => by
    have hne : b ≠ N := fun e => e5 o (e ▸ hb)
    unfold World.cell?
    simp only
    rw [ho b hne]⟩
  have hk : ∀ {j : Nat} {c c0 : Own}, fnd j [(k, c0)] = some c → j = k ∧ c = c0 := by
    intro j c c0 h
    rw [fnd_cons] at h
    by_cases e : k = j
    · simp only [e, if_true] at h; cases h; exact ⟨e.symm, rfl⟩
    · simp only [e, if_false] at h; cases h
  refine ⟨hx, fun B o h => by rw [hs]; exact hg.lt B o h, GLe.refl g, fun _ _ => ⟨rfl, fun _ => rfl⟩, h1, h2, h3, by omega, fun M hM hne => ho M ?_, fun _ _ h => .inl h, fun j c h => ?_, fun j c M h hb => ?_, fun j j' c c' M h h' hne => ?_, fun j c h => ?_⟩
  · rintro rfl
    exact hne k (.box t cs) (by rw [fnd_cons]; simp) hN
  · obtain ⟨rfl, rfl⟩ := hk h
    exact ⟨N, vs', hN, hw, hv.mono hx (GLe.refl g), hone, e5⟩
  · obtain ⟨rfl, rfl⟩ := hk h
    exact .inr ⟨j, .box t cs, by rw [fnd_cons]; simp, hb⟩
  · obtain ⟨rfl, rfl⟩ := hk h
    obtain ⟨rfl, rfl⟩ := hk h'
    exact absurd rfl hne
  · obtain ⟨rfl, rfl⟩ := hk h
    exact ⟨.box t cs', by rw [fnd_cons]; simp⟩
theorem store_run {P : Program} {t bt : TypeId} {w : World} {N off : Nat} {vs news : List Value} {v : Value} (hsz : (P.info? t).map (·.size) = some news.length) (hv : v.cells.toList = news) (h : w.heap[N]? = some (.cells vs.toArray bt (0, 0)))
    (hl : off + news.length ≤ vs.length) (h1 : ∀ v ∈ news, v.oneCell' = true) :
    (Instr.storeAt t (.pointer (some ⟨N, off, none⟩)) v).run P w = .ok () (w.setRow N (vs.take off ++ news ++ vs.drop (off + news.length)).toArray) := by
  have hst := run_storeCells_at (P := P) N off bt news 0 vs.toArray w h (by simpa using hl) h1
  simp only [Nat.add_zero] at hst
  have hc : v.cells.size = news.length := by rw [← hv]; simp
  simp only [Instr.storeAt, Instr.sureAddr, storeVar, Sem.run_bind, Sem.run_pure, Result.andThen_ok, sizeOf_run hsz, hc, hv, hst, ne_eq, not_true_eq_false, if_false]
theorem exec_unit {s : Sem Unit} {P : Program} {w w' : World} (h : s.run P w = .ok () w') : (do s; pure Next.skip : Sem Next).run P w = .ok .skip w' := by
  simp [h]
section
variable {P : Program} {tm : List (Nat × TV)} {dst : Option Tmp} {ty : TypeId} {pos : String} {aft : Array Edge} {gd : Option (Nat × Bool)}
theorem store_core {x y : Operand} {t bt : TypeId} {k off : Nat} {cs ds : List TV} (hsz : (P.info? t).map (·.size) = some ds.length) (hx : Opd tm x (.bp k off)) (hl : off + ds.length ≤ cs.length) (hone : ∀ d ∈ ds, d.one = true)
    (hy : ∀ w s g a, TmOk w s g tm a → AllT w s g ds (a.eval y).cells.toList) :
    UOp P ⟨dst, .store t x y, ty, pos, aft, gd⟩ tm [(k, .box bt cs)] (.pv (PV.lit undef)) [(k, .box bt (cs.take off ++ ds ++ cs.drop (off + ds.length)))] := by
  intro w s g a K Q ht hg hK
  obtain ⟨N, h1, h2⟩ := Opd.eval ht hx
  obtain ⟨M, vs, h3, h4, h5, h6, h7⟩ := hg.one
  rw [h1] at h3; cases h3
  have hy' := hy w s g a ht
  have hlen := hy'.length
  have hall : ∀ v ∈ (a.eval y).cells.toList, v.oneCell' = true := by
    intro v hv
    obtain ⟨j, hj⟩ := List.getElem?_of_mem hv
    obtain ⟨d, h8, h9⟩ := hy'.get' hj
    exact TV.cell (hone d (List.mem_of_getElem? h8)) h9
  have hr := store_run (P := P) (t := t) (bt := bt) (off := off) (v := a.eval y) (by rw [hsz, hlen]) rfl h4 (by rw [hlen, h5.length]; exact hl) hall
  unfold Oper.wp
  have he : (execOp a.eval ⟨dst, .store t x y, ty, pos, aft, gd⟩).run P w = .ok .skip _ := exec_unit (s := Instr.storeAt t (a.eval x) (a.eval y)) (by rw [h2]; exact hr)
  rw [he]
  refine hK _ s g undef rfl (Stp.write (vs' := vs.take off ++ (a.eval y).cells.toList ++ vs.drop (off + (a.eval y).cells.toList.length)) hg h1 (setRow_heap w N _ _ bt _ h4) (fun M hM => setRow_other w N M _ hM) (by simp) rfl rfl rfl ?_ ?_)
  · rw [hlen]
    exact AllT.append (AllT.append (h5.take off) hy') (h5.drop _)
  · intro d hd
    rcases List.mem_append.1 hd with hd | hd
    · rcases List.mem_append.1 hd with hd | hd
      · exact h6 d (List.mem_of_mem_take hd)
      · exact hone d hd
    · exact h6 d (List.mem_of_mem_drop hd)
theorem cells_one {v : Value} (h : v.oneCell' = true) : v.cells = #[v] := by cases v <;> first | rfl | (simp [Value.oneCell'] at h)
theorem u_storeB1 {x y : Operand} {t bt : TypeId} {k off : Nat} {cs : List TV} {d : TV} (hT : OneT P t) (hx : Opd tm x (.bp k off)) (hy : Opd tm y d) (hl : off + 1 ≤ cs.length) (hone : d.one = true) :
    UOp P ⟨dst, .store t x y, ty, pos, aft, gd⟩ tm [(k, .box bt cs)] (.pv (PV.lit undef)) [(k, .box bt (cs.take off ++ [d] ++ cs.drop (off + 1)))] :=
  store_core (ds := [d]) hT.size hx hl (fun e he => by simp at he; subst he; exact hone) fun w s g a ht => by
    have h := Opd.eval ht hy
    rw [cells_one (TV.cell hone h)]
    exact ⟨h, trivial⟩
theorem u_storeBR {x y : Operand} {t bt : TypeId} {k off n : Nat} {cs ds : List TV} (hT : RowT P t n) (hx : Opd tm x (.bp k off)) (hy : Opd tm y (.agg ds)) (hn : ds.length = n) (hl : off + n ≤ cs.length) (hone : ∀ d ∈ ds, d.one = true) :
    UOp P ⟨dst, .store t x y, ty, pos, aft, gd⟩ tm [(k, .box bt cs)] (.pv (PV.lit undef)) [(k, .box bt (cs.take off ++ ds ++ cs.drop (off + n)))] := by
  subst hn
  exact store_core hT.size hx hl hone fun w s g a ht => by
    obtain ⟨vs, h1, h2⟩ := Opd.eval ht hy
    have h1' : a.eval y = .agg vs.toArray := h1
    rw [h1']
    exact h2

/-- A struct type's field. -/
structure FldT (P : Program) (t : TypeId) (i off : Nat) : Prop where
  h : ∃ fs f, P.underlying t = some (.struct fs) ∧ fs[i]? = some f ∧ f.offset = off ∧ ∃ n, 0 < n ∧ (P.info? f.type).map (·.size) = some n
theorem FldT.run {P : Program} {t : TypeId} {i off : Nat} (h : FldT P t i off) (w : World) (b o : Nat) : (Instr.fieldAt t (.pointer (some ⟨b, o, none⟩)) i).run P w = .ok (.pointer (some ⟨b, o + off, none⟩)) w := by
  obtain ⟨fs, f, h1, h2, rfl, n, hn, h3⟩ := h.h
  have hz : ¬ n = 0 := by omega
  simp only [Instr.fieldAt, Sem.run_bind, run_underlying h1, Result.andThen_ok, h2, Instr.sureAddr, Sem.run_pure, fieldPlace, sizeOf_run h3, hz, if_false, Addr.add_mid]
theorem u_fieldAddrB {x : Operand} {t : TypeId} {i off fo k : Nat} (hF : FldT P t i fo) (hx : Opd tm x (.bp k off)) : UOp P ⟨dst, .fieldAddr t x i, ty, pos, aft, gd⟩ tm [] (.bp k (off + fo)) [] :=
  UOp.pure fun w s g a ht => by
    obtain ⟨N, h1, h2⟩ := Opd.eval ht hx
    exact ⟨_, exec_value (s := Instr.fieldAt t (a.eval x) i) (by rw [h2]; exact hF.run w N off), N, h1, rfl⟩
theorem u_fieldAddrP {x : Operand} {t : TypeId} {i fo : Nat} {row : List PV} (hF : FldT P t i fo) (hx : Opd tm x (.pv (PV.pt row))) : UOp P ⟨dst, .fieldAddr t x i, ty, pos, aft, gd⟩ tm [] (.pv (PV.pt (row.drop fo))) [] :=
  UOp.pure fun w s g a ht => by
    obtain ⟨b, o, h1, h2⟩ := Opd.eval ht hx
    have h1' : a.eval x = .pointer (some ⟨b, o, none⟩) := h1
    exact ⟨_, exec_value (s := Instr.fieldAt t (a.eval x) i) (by rw [h1']; exact hF.run w b o), b, o + fo, rfl, h2.drop fo⟩
/-- A slice type: its elements are of so many cells. -/
structure SlT (P : Program) (t : TypeId) (sz : Nat) : Prop where
  h : ∃ e, P.underlying t = some (.slice e) ∧ (P.info? e).map (·.size) = some sz
theorem u_indexAddr {x y : Operand} {t : TypeId} {sz : Nat} {k : IntKind} {n : Int} {rows : List (List PV)} {row : List PV} {d : TV} (hT : SlT P t sz) (hx : Opd tm x d) (hd : d.toPV = some (PV.sl sz rows)) (hy : Opd tm y (.pv (PV.lit (.int k n)))) (h0 : 0 ≤ n) (hr : rows[n.toNat]? = some row) :
    UOp P ⟨dst, .indexAddr t x y, ty, pos, aft, gd⟩ tm [] (.pv (PV.pt row)) [] :=
  UOp.pure fun w s g a ht => by
    obtain ⟨e, hu, he⟩ := hT.h
    obtain ⟨ad, cap, h1, h2, h3, h4, h5⟩ := TV.weak hd (Opd.eval ht hx)
    obtain ⟨b, off, rfl, h6⟩ := h5 _ _ hr
    have hlt : n.toNat < rows.length := (List.getElem?_eq_some_iff.1 hr).1
    have h7 := Opd.lit ht hy
    refine ⟨.pointer (some ⟨b, off + n.toNat * sz, none⟩), exec_value (s := Instr.indexAt t (a.eval x) (a.eval y)) ?_, b, _, rfl, h6⟩
    have h1' : a.eval x = .slice (some ⟨b, off, none⟩) rows.length cap := h1
    have hb : (0 ≤ n ∧ n < (rows.length : Int)) := ⟨h0, by omega⟩
    rw [h1', h7]
    simp only [Instr.indexAt, asIntOf, Sem.run_bind, Sem.run_pure, Result.andThen_ok, run_underlying hu, hb, and_self, if_true, sizeOf_run he, Addr.add_mid]
theorem u_lenSl {x : Operand} {t : TypeId} {sz : Nat} {rows : List (List PV)} {d : TV} (hT : SlT P t sz) (hx : Opd tm x d) (hd : d.toPV = some (PV.sl sz rows)) :
    UOp P ⟨dst, .call { callee := .builtin .len, args := #[x], argTypes := #[t] }, ty, pos, aft, gd⟩ tm [] (.pv (PV.lit (.int .i64 rows.length))) [] :=
  UOp.pure fun w s g a ht => by
    obtain ⟨e, hu, he⟩ := hT.h
    obtain ⟨ad, cap, h1, _⟩ := TV.weak hd (Opd.eval ht hx)
    have h1' : a.eval x = .slice ad rows.length cap := h1
    exact ⟨.int .i64 rows.length, by simp [execOp, resolve, invoke, builtin, h1', Builtin.len_, run_underlying hu, goInt], rfl⟩
theorem u_lenNil {x : Operand} {t : TypeId} {sz n c : Nat} {ad : Option Addr} (hT : SlT P t sz) (hx : Opd tm x (.pv (PV.lit (.slice ad n c)))) :
    UOp P ⟨dst, .call { callee := .builtin .len, args := #[x], argTypes := #[t] }, ty, pos, aft, gd⟩ tm [] (.pv (PV.lit (.int .i64 n))) [] :=
  UOp.pure fun w s g a ht => by
    obtain ⟨e, hu, he⟩ := hT.h
    have h1' := Opd.lit ht hx
    exact ⟨.int .i64 n, by simp [execOp, resolve, invoke, builtin, h1', Builtin.len_, run_underlying hu, goInt], rfl⟩
theorem u_lenStr {x : Operand} {t : TypeId} {p : ByteArray} (hT : P.underlying t = some .string) (hx : Opd tm x (.pv (PV.lit (.string p)))) :
    UOp P ⟨dst, .call { callee := .builtin .len, args := #[x], argTypes := #[t] }, ty, pos, aft, gd⟩ tm [] (.pv (PV.lit (.int .i64 p.size))) [] :=
  UOp.pure fun w s g a ht => by
    have h1' := Opd.lit ht hx
    exact ⟨.int .i64 p.size, by simp [execOp, resolve, invoke, builtin, h1', Builtin.len_, run_underlying hT, goInt], rfl⟩
theorem u_indexStr {x y : Operand} {t : TypeId} {p : ByteArray} {k : IntKind} {n : Int} {c : UInt8} (hT : P.underlying t = some .string) (hx : Opd tm x (.pv (PV.lit (.string p)))) (hy : Opd tm y (.pv (PV.lit (.int k n)))) (h0 : 0 ≤ n) (hc : p[n.toNat]? = some c) :
    UOp P ⟨dst, .index t x y, ty, pos, aft, gd⟩ tm [] (.pv (PV.lit (.int .u8 c.toNat))) [] :=
  UOp.pure fun w s g a ht => by
    have h1 := Opd.lit ht hx
    have h2 := Opd.lit ht hy
    exact ⟨.int .u8 c.toNat, exec_value (s := Instr.index t (a.eval x) (a.eval y)) (by rw [h1, h2]; simp [Instr.index, asIntOf, run_underlying hT, h0, hc]), rfl⟩

/-- Parts laid into a struct's cells. -/
def fillA (places : List (Nat × Nat)) (cells : List TV) : List (Nat × List TV) → Option (List TV)
  | [] => some cells
  | (i, ds) :: rest => match places[i]? with
    | some (off, size) => match Nat.beq ds.length size && Nat.ble (off + size) cells.length with
      | true => fillA places (cells.take off ++ ds ++ cells.drop (off + size)) rest
      | false => none
    | none => none
theorem foldl_fill (news : List Value) : ∀ (j : Nat) (cells : Array Value) (off : Nat), off + j + news.length ≤ cells.size →
    ((news.zipIdx j).foldl (fun cs (x : Value × Nat) => cs.setIfInBounds (off + x.2) x.1) cells).toList = cells.toList.take (off + j) ++ news ++ cells.toList.drop (off + j + news.length) := by
  induction news with
  | nil => intro j cells off h; simp
  | cons v news ih =>
    intro j cells off h
    simp only [List.length_cons] at h
    simp only [List.zipIdx_cons, List.foldl_cons]
    rw [ih (j + 1) _ off (by simp; omega)]
    simp only [Array.toList_setIfInBounds, List.length_cons]
    have e := list_seg_step cells.toList (off + j) v news (by simp; omega)
    simpa [Nat.add_assoc] using e
theorem fill_sound {w : World} {s : Sb} {g : Gh} {places : List (Nat × Nat)} {f : Nat → Option (Nat × Nat)} (hf : ∀ i p, places[i]? = some p → f i = some p) : ∀ {parts : List (Nat × Value)} {ps : List (Nat × List TV)} {cells : List TV} {vs : List Value} {out : List TV},
    parts.length = ps.length → (∀ (j : Nat) (x : Nat × Value) (y : Nat × List TV), parts[j]? = some x → ps[j]? = some y → x.1 = y.1 ∧ AllT w s g y.2 x.2.cells.toList) → AllT w s g cells vs → fillA places cells ps = some out → ∃ us : Array Value, Instr.fill f vs.toArray parts = some us ∧ AllT w s g out us.toList
  | [], [], cells, vs, out, _, _, hc, h => by cases h; exact ⟨vs.toArray, rfl, by simpa using hc⟩
  | (i, v) :: parts, (i', ds) :: ps, cells, vs, out, hl, hp, hc, h => by
    obtain ⟨rfl, hv⟩ := hp 0 _ _ rfl rfl
    simp only at hv
    unfold fillA at h
    unfold Instr.fill
    cases hpl : places[i]? with
    | none => rw [hpl] at h; cases h
    | some os =>
      obtain ⟨off, size⟩ := os
      rw [hpl] at h
      rw [hf i _ hpl]
      simp only at h ⊢
      cases hb : (Nat.beq ds.length size && Nat.ble (off + size) cells.length) with
      | false => rw [hb] at h; cases h
      | true =>
        rw [hb] at h
        simp only [Bool.and_eq_true] at hb
        have h1 : ds.length = size := Nat.eq_of_beq_eq_true hb.1
        have h2 : off + size ≤ cells.length := Nat.le_of_ble_eq_true hb.2
        have h3 : v.cells.size = size := by rw [← h1, ← hv.length]; simp
        have h4 : vs.length = cells.length := hc.length
        have hcond : ¬ ((decide (v.cells.size ≠ size) || decide (off + v.cells.size > vs.toArray.size)) = true) := by simp [h3, h4]; omega
        rw [if_neg hcond]
        have hfold := foldl_fill v.cells.toList 0 vs.toArray off (by simp [h3, h4]; omega)
        obtain ⟨us, hu1, hu2⟩ := fill_sound (w := w) (s := s) (g := g) hf (parts := parts) (ps := ps) (cells := cells.take off ++ ds ++ cells.drop (off + size)) (vs := vs.take off ++ v.cells.toList ++ vs.drop (off + size)) (out := out) (by simpa using hl)
          (fun j x y hx hy => hp (j + 1) x y (by simpa using hx) (by simpa using hy))
          (by
            exact AllT.append (AllT.append (AllT.take off hc) hv) (AllT.drop (off + size) hc))
          h
        refine ⟨us, ?_, hu2⟩
        rw [← hu1]
        congr 1
        apply Array.toList_inj.1
        rw [← Array.foldl_toList, Array.toList_zipIdx]
        rw [hfold]
        simp [h3]
  | [], _ :: _, _, _, _, hl, _, _, _ => by simp at hl
  | _ :: _, [], _, _, _, hl, _, _, _ => by simp at hl
end
end Go.Proofs.YtfkaepjlmgolhaaGreatDoor

/- Abstract execution: literals of structs and slices, calls. Nothing here speaks of the program. -/
namespace Go.Proofs.YtfkaepjlmgolhaaGreatDoor
open Go.RowKit

/-- A part of a literal. -/
def PartOk (tm : List (Nat × TV)) (x : Operand) (ds : List TV) : Prop := Opd tm x (.agg ds) ∨ ∃ t, Opd tm x t ∧ t.one = true ∧ [t] = ds
theorem PartOk.all {w : World} {s : Sb} {g : Gh} {tm : List (Nat × TV)} {a : Act} (ht : TmOk w s g tm a) {x : Operand} {ds : List TV} (h : PartOk tm x ds) : AllT w s g ds (a.eval x).cells.toList := by
  rcases h with h | ⟨t, h1, h3, rfl⟩
  · obtain ⟨vs, e1, e2⟩ := Opd.eval ht h
    have e1' : a.eval x = .agg vs.toArray := e1
    rw [e1']
    exact e2
  · have e := Opd.eval ht h1
    rw [cells_one (TV.cell h3 e)]
    exact ⟨e, trivial⟩
def PartsOk (tm : List (Nat × TV)) : List (Nat × Operand) → List (Nat × List TV) → Prop
  | [], [] => True
  | (i, x) :: r, (j, ds) :: q => i = j ∧ PartOk tm x ds ∧ PartsOk tm r q
  | _, _ => False
theorem PartsOk.get {tm : List (Nat × TV)} : ∀ {l : List (Nat × Operand)} {ps : List (Nat × List TV)}, PartsOk tm l ps → l.length = ps.length ∧ ∀ (j : Nat) (x : Nat × Operand) (y : Nat × List TV), l[j]? = some x → ps[j]? = some y → x.1 = y.1 ∧ PartOk tm x.2 y.2
  | [], [], _ => ⟨rfl, fun j x y hx => by simp at hx⟩
  | (i, x) :: r, (j, ds) :: q, h => by
    obtain ⟨h1, h2, h3⟩ := h
    obtain ⟨e1, e2⟩ := PartsOk.get h3
    refine ⟨by simp [e1], fun n u v hu hv => ?_⟩
    match n, hu, hv with
    | 0, hu, hv => simp at hu hv; subst hu; subst hv; exact ⟨h1, h2⟩
    | n + 1, hu, hv => exact e2 n u v (by simpa using hu) (by simpa using hv)
  | [], _ :: _, h => h.elim
  | _ :: _, [], h => h.elim
/-- A struct type of which literals are made: its zero cells, where its fields lie. -/
structure BldT (P : Program) (t : TypeId) (zs : List Value) (places : List (Nat × Nat)) : Prop where
  h : ∃ it fs z, P.info? t = some it ∧ P.underlying t = some (.struct fs) ∧ it.zero = some z ∧ z.cells.toList = zs ∧ fs.toList.mapM (fun f => (P.info? f.type).map fun i => (f.offset, i.size)) = some places
section
variable {P : Program} {tm : List (Nat × TV)} {dst : Option Tmp} {ty : TypeId} {pos : String} {aft : Array Edge} {gd : Option (Nat × Bool)}
theorem AllV.lits (w : World) (s : Sb) : ∀ l : List Value, AllV w s (l.map PV.lit) l
  | [] => trivial
  | _ :: l => ⟨rfl, AllV.lits w s l⟩
theorem AllT.lits (w : World) (s : Sb) (g : Gh) : ∀ l : List Value, AllT w s g (l.map fun v => .pv (PV.lit v)) l
  | [] => trivial
  | _ :: l => ⟨rfl, AllT.lits w s g l⟩
theorem u_build {t : TypeId} {parts : List (Nat × Operand)} {zs : List Value} {places : List (Nat × Nat)} {ps : List (Nat × List TV)} {out : List TV} (hB : BldT P t zs places) (hp : PartsOk tm parts ps) (hf : fillA places (zs.map fun v => .pv (PV.lit v)) ps = some out) :
    UOp P ⟨dst, .build t parts.toArray, ty, pos, aft, gd⟩ tm [] (.agg out) [] :=
  UOp.pure fun w s g a ht => by
    obtain ⟨it, fs, z, h1, h2, h3, h4, h5⟩ := hB.h
    obtain ⟨e1, e2⟩ := hp.get
    obtain ⟨us, f1, f2⟩ := fill_sound (w := w) (s := s) (g := g) (places := places) (f := (places.toArray[·]?)) (fun i p h => by simpa using h) (parts := parts.map fun x => (x.1, a.eval x.2)) (ps := ps) (cells := zs.map fun v => .pv (PV.lit v)) (vs := zs) (out := out) (by simpa using e1)
      (fun j x y hx hy => by
        rw [List.getElem?_map] at hx
        cases hl : parts[j]? with
        | none => rw [hl] at hx; simp at hx
        | some q =>
          rw [hl] at hx
          simp at hx
          subst hx
          obtain ⟨g1, g2⟩ := e2 j q y hl hy
          exact ⟨g1, g2.all ht⟩) (AllT.lits w s g zs) hf
    refine ⟨.agg us, exec_value (s := Instr.build t (parts.toArray.map fun (i, x) => (i, a.eval x))) ?_, us.toList, by simp, f2⟩
    refine run_build w t _ us ?_
    have hzc : z.cells = zs.toArray := by rw [← h4]
    unfold Program.built
    simp only [h1, h2, h3, h5, hzc]
    rw [← f1]
    simp
/-- A new block whose cells stay. -/
theorem Stp.newStable {w : World} {s : Sb} {g : Gh} (hl : ∀ B o, s B o → B < w.heap.size) (o : Obj) : Stp w s g [] (w.alloc o) (fun B i => s B i ∨ B = w.heap.size) g [] := by
  refine ⟨⟨fun _ _ h => .inl h, fun b i h => by rw [World.cell?_alloc_lt _ _ _ (hl b i h)]⟩, fun B i h => ?_, GLe.refl g, fun _ _ => ⟨rfl, fun _ => rfl⟩, rfl, rfl, rfl, by simp, fun N hN _ => Below.heap_alloc w _ N hN, fun B i h => ?_, (fun _ _ h => by cases h), (fun _ _ _ h => by cases h), (fun _ _ _ _ _ h => by cases h), (fun _ _ h => by cases h)⟩
  · rcases h with h | h
    · have := hl B i h; simp; omega
    · simp; omega
  · rcases h with h | h
    · exact .inl h
    · exact .inr (.inl (by omega))
/-- A part that reads as data. -/
def PartV (tm : List (Nat × TV)) (x : Operand) (ds : List PV) : Prop := ∃ ts, PartOk tm x ts ∧ TV.toPVs ts = some ds
theorem PartV.all {w : World} {s : Sb} {g : Gh} {tm : List (Nat × TV)} {a : Act} (ht : TmOk w s g tm a) {x : Operand} {ds : List PV} (h : PartV tm x ds) : AllV w s ds (a.eval x).cells.toList := by
  obtain ⟨ts, h1, h2⟩ := h
  exact AllT.weakS h2 (h1.all ht)
/-- The rows of a slice literal. -/
def RowsOk (tm : List (Nat × TV)) (sz : Nat) : Nat → List (Nat × Operand) → List (List PV) → Prop
  | _, [], [] => True
  | i, (j, x) :: r, ds :: q => j = i ∧ PartV tm x ds ∧ ds.length = sz ∧ (∀ d ∈ ds, d.one = true) ∧ RowsOk tm sz (i + 1) r q
  | _, _, _ => False
theorem fill_rows {w : World} {s : Sb} {g : Gh} {tm : List (Nat × TV)} {a : Act} {sz : Nat} (ht : TmOk w s g tm a) : ∀ {parts : List (Nat × Operand)} {rows : List (List PV)} (i : Nat) (done rest : List Value), RowsOk tm sz i parts rows → done.length = i * sz → rest.length = rows.length * sz →
    ∃ vss : List (List Value), vss.length = rows.length ∧ (∀ (j : Nat) (r : List PV) (vs : List Value), rows[j]? = some r → vss[j]? = some vs → AllV w s r vs) ∧
      Instr.fill (fun i => some (i * sz, sz)) (done ++ rest).toArray (parts.map fun x => (x.1, a.eval x.2)) = some (done ++ vss.flatten).toArray
  | [], [], i, done, rest, _, _, hr => ⟨[], rfl, fun j r vs h => by simp at h, by
      have : rest = [] := List.eq_nil_of_length_eq_zero (by simpa using hr)
      subst this; simp [Instr.fill]⟩
  | (j, x) :: parts, ds :: rows, i, done, rest, h, hd, hr => by
    obtain ⟨rfl, h1, h2, _, h3⟩ := h
    have hv := h1.all ht
    have hn : (a.eval x).cells.size = sz := by rw [← h2, ← hv.length]; simp
    simp only [List.length_cons] at hr
    have hrl : sz ≤ rest.length := by rw [hr, Nat.add_mul, Nat.one_mul]; omega
    obtain ⟨vss, g1, g2, g3⟩ := fill_rows ht (j + 1) (done ++ (a.eval x).cells.toList) (rest.drop sz) h3 (by simp [hd, hn, Nat.add_mul]) (by rw [List.length_drop, hr, Nat.add_mul]; omega)
    refine ⟨(a.eval x).cells.toList :: vss, by simp [g1], fun m r vs hm hvs => ?_, ?_⟩
    · match m, hm, hvs with
      | 0, hm, hvs => simp at hm hvs; subst hm; subst hvs; exact hv
      | m + 1, hm, hvs => exact g2 m r vs (by simpa using hm) (by simpa using hvs)
    · simp only [List.map_cons]
      unfold Instr.fill
      have hc : ¬ ((decide ((a.eval x).cells.size ≠ sz) || decide (j * sz + (a.eval x).cells.size > (done ++ rest).toArray.size)) = true) := by simp [hn, hd]; omega
      simp only [if_neg hc]
      have hfold := foldl_fill (a.eval x).cells.toList 0 (done ++ rest).toArray (j * sz) (by simp [hn, hd]; omega)
      have e : Array.foldl (fun cs (x : Value × Nat) => cs.setIfInBounds (j * sz + x.2) x.1) (done ++ rest).toArray (a.eval x).cells.zipIdx = (done ++ (a.eval x).cells.toList ++ rest.drop sz).toArray := by
        apply Array.toList_inj.1
        rw [← Array.foldl_toList, Array.toList_zipIdx, hfold]
        simp only [Nat.add_zero, Array.length_toList, hn]
        have e1 : (done ++ rest).take (j * sz) = done := by rw [← hd]; exact List.take_left
        have e2 : (done ++ rest).drop (j * sz + sz) = rest.drop sz := by rw [List.drop_append, hd]; simp [List.drop_of_length_le (show done.length ≤ j * sz + sz by omega)]
        show (done ++ rest).take (j * sz) ++ (a.eval x).cells.toList ++ (done ++ rest).drop (j * sz + sz) = done ++ (a.eval x).cells.toList ++ rest.drop sz
        rw [e1, e2]
      rw [e, g3]
      simp
  | [], _ :: _, _, _, _, h, _, _ => h.elim
  | _ :: _, [], _, _, _, h, _, _ => h.elim
theorem flat_get {sz : Nat} : ∀ {vss : List (List Value)} {i j : Nat} {vs : List Value} {v : Value}, (∀ x ∈ vss, x.length = sz) → vss[i]? = some vs → vs[j]? = some v → vss.flatten[i * sz + j]? = some v
  | [], i, j, vs, v, _, hi, _ => by simp at hi
  | x :: vss, 0, j, vs, v, hl, hi, hj => by
    simp at hi; subst hi
    rw [List.flatten_cons, Nat.zero_mul, Nat.zero_add, List.getElem?_append_left (List.getElem?_eq_some_iff.1 hj).1]
    exact hj
  | x :: vss, i + 1, j, vs, v, hl, hi, hj => by
    have hx := hl x (by simp)
    rw [List.flatten_cons, List.getElem?_append_right (by rw [hx, Nat.add_mul]; omega), hx, show (i + 1) * sz + j - sz = i * sz + j by rw [Nat.add_mul]; omega]
    exact flat_get (fun y hy => hl y (by simp [hy])) (by simpa using hi) hj
/-- A slice type of which literals are made. -/
structure BslT (P : Program) (t : TypeId) (sz : Nat) : Prop where
  h : ∃ e ie z, P.underlying t = some (.slice e) ∧ P.info? e = some ie ∧ ie.zero = some z ∧ ie.size = sz ∧ z.cells.size = sz ∧ 0 < sz
theorem u_buildSlice {t : TypeId} {sz len : Nat} {parts : List (Nat × Operand)} {rows : List (List PV)} (hB : BslT P t sz) (hp : RowsOk tm sz 0 parts rows) (hl : len = rows.length) (hs : len * sz ≤ 2 ^ 24) (h0 : 0 < len) :
    UOp P ⟨dst, .buildSlice t len parts.toArray, ty, pos, aft, gd⟩ tm [] (.pv (PV.sl sz rows)) [] := by
  intro w s g a K Q ht hg hK
  obtain ⟨e, ie, z, h1, h2, h3, h4, h5, h6⟩ := hB.h
  subst h4
  have hlp : 0 < len * ie.size := Nat.mul_pos h0 h6
  obtain ⟨vss, g1, g2, g3⟩ := fill_rows (sz := ie.size) ht 0 [] ((Array.range (len * ie.size)).map (z.cells[· % z.cells.size]!)).toList hp (by simp) (by simp [hl])
  have hrl : ∀ (i : Nat) (row : List PV), rows[i]? = some row → row.length = ie.size := by
    have aux : ∀ (parts : List (Nat × Operand)) (rows : List (List PV)) (n : Nat), RowsOk tm ie.size n parts rows → ∀ (i : Nat) (row : List PV), rows[i]? = some row → row.length = ie.size := by
      intro parts
      induction parts with
      | nil => intro rows n h i row hr; cases rows with | nil => simp at hr | cons _ _ => exact h.elim
      | cons q parts ih =>
        intro rows n h i row hr
        cases rows with
        | nil => simp at hr
        | cons r rows =>
          obtain ⟨_, _, e3, _, e4⟩ := h
          match i, hr with
          | 0, hr => simp at hr; subst hr; exact e3
          | i + 1, hr => exact ih rows (n + 1) e4 i row (by simpa using hr)
    exact aux parts rows 0 hp
  have hone : ∀ (i : Nat) (row : List PV), rows[i]? = some row → ∀ d ∈ row, d.one = true := by
    have aux : ∀ (parts : List (Nat × Operand)) (rows : List (List PV)) (n : Nat), RowsOk tm ie.size n parts rows → ∀ (i : Nat) (row : List PV), rows[i]? = some row → ∀ d ∈ row, d.one = true := by
      intro parts
      induction parts with
      | nil => intro rows n h i row hr; cases rows with | nil => simp at hr | cons _ _ => exact h.elim
      | cons q parts ih =>
        intro rows n h i row hr
        cases rows with
        | nil => simp at hr
        | cons r rows =>
          obtain ⟨_, _, _, e3, e4⟩ := h
          match i, hr with
          | 0, hr => simp at hr; subst hr; exact e3
          | i + 1, hr => exact ih rows (n + 1) e4 i row (by simpa using hr)
    exact aux parts rows 0 hp
  have hr := run_buildSlice (P := P) w t e len (parts.toArray.map fun (i, x) => (i, a.eval x)) (vss.flatten).toArray ie z h1 h2 h3 (by omega) (by omega) (by
    simp only [List.nil_append, Array.toArray_toList] at g3
    rw [← g3]
    simp)
  unfold Oper.wp
  have he : (execOp a.eval ⟨dst, .buildSlice t len parts.toArray, ty, pos, aft, gd⟩).run P w = .ok (.value (.slice (some ⟨w.heap.size, 0, none⟩) len len)) (w.alloc (.cells vss.flatten.toArray e)) := exec_value hr
  rw [he]
  have hlm : len ≤ 9223372036854775807 := by
    have : len * 1 ≤ len * ie.size := Nat.mul_le_mul_left _ h6
    omega
  have hst := Stp.newStable (g := g) hg.lt (.cells vss.flatten.toArray e)
  refine hK _ _ g _ ⟨_, len, by rw [hl], by omega, hlm, fun row hrow => ?_, fun i row hrow => ⟨w.heap.size, 0, rfl, fun j d hd => ?_⟩⟩ hst
  · obtain ⟨i, hi⟩ := List.getElem?_of_mem hrow
    exact hrl i row hi
  · have hi : i < vss.length := by rw [g1]; exact (List.getElem?_eq_some_iff.1 hrow).1
    have hav := g2 i row _ hrow (List.getElem?_eq_getElem hi)
    obtain ⟨v, h7, h8⟩ := hav.get hd
    have hall : ∀ x ∈ vss, x.length = ie.size := by
      intro x hx
      obtain ⟨m, hm⟩ := List.getElem?_of_mem hx
      have hm' : m < rows.length := by rw [← g1]; exact (List.getElem?_eq_some_iff.1 hm).1
      rw [(g2 m _ x (List.getElem?_eq_getElem hm') hm).length]
      exact hrl m _ (List.getElem?_eq_getElem hm')
    refine ⟨v, ?_, .inr rfl, d.mono _ _ _ _ v hst.ex h8, d.cell (hone i row hrow d (List.mem_of_getElem? hd)) _ _ _ h8⟩
    rw [cell_of_row _ w.heap.size _ _ e (0, 0) (heap_alloc_new w _)]
    simpa using flat_get hall (List.getElem?_eq_getElem hi) h7
theorem u_buildSlice0 {t : TypeId} {sz : Nat} (hB : BslT P t sz) : UOp P ⟨dst, .buildSlice t 0 #[], ty, pos, aft, gd⟩ tm [] (.pv (PV.sl sz [])) [] := by
  intro w s g a K Q ht hg hK
  obtain ⟨e, ie, z, h1, h2, h3, h4, h5, h6⟩ := hB.h
  have er : ∀ f : Nat → Value, Array.map f (Array.range 0) = #[] := fun f => Array.eq_empty_of_size_eq_zero (by simp)
  have he : (execOp a.eval ⟨dst, .buildSlice t 0 #[], ty, pos, aft, gd⟩).run P w = .ok (.value (.slice (some ⟨w.heap.size, 0, none⟩) 0 0)) (w.alloc (.cells #[] e)) :=
    exec_value (s := Instr.buildSlice t 0 _) (by simp [Instr.buildSlice, run_underlying h1, sizeOf, typeInfo, h2, Instr.fill, newRow, er])
  unfold Oper.wp
  rw [he]
  exact hK _ _ g _ ⟨_, 0, rfl, Nat.le_refl _, by omega, (fun _ h => by cases h), (fun i row h => by simp at h)⟩ (Stp.newStable (g := g) hg.lt _)

/-- What a call that owns nothing before it and behind it does. -/
structure PStp (w : World) (s : Sb) (w' : World) (s' : Sb) : Prop where
  ex : Ex w s w' s'
  lt : ∀ B o, s' B o → B < w'.heap.size
  os : w'.os = w.os
  tape : w'.tape = w.tape
  output : w'.output = w.output
  size : w.heap.size ≤ w'.heap.size
  block : ∀ N, N < w.heap.size → w'.heap[N]? = w.heap[N]?
  st : ∀ B o, s' B o → s B o ∨ w.heap.size ≤ B
theorem PStp.stp {w w' : World} {s s' : Sb} (h : PStp w s w' s') (g : Gh) : Stp w s g [] w' s' g [] :=
  ⟨h.ex, h.lt, GLe.refl g, fun _ _ => ⟨rfl, fun _ => rfl⟩, h.os, h.tape, h.output, h.size, fun N hN _ => h.block N hN, fun B o hs => (h.st B o hs).elim .inl fun x => .inr (.inl x), (fun _ _ h => by cases h), (fun _ _ _ h => by cases h), (fun _ _ _ _ _ h => by cases h), (fun _ _ h => by cases h)⟩
theorem PStp.below {w w' : World} {s s' : Sb} (h : PStp w s w' s') : Below w.heap.size w w' := ⟨h.os, h.tape, h.output, h.size, h.block⟩
/-- A function with a body. -/
structure Bod (P : Program) (f : FuncId) : Prop where
  h : ∃ fn, P.funcs[f]? = some fn ∧ (fn.name == "runtime.NumGoroutine") = false ∧ fn.body.isNone = false
/-- A contract: of these arguments the call makes a result that reads as out, and turns nothing that was there. -/
structure PFun (P : Program) (f : FuncId) (args : List PV) (out : PV) : Prop where
  bod : Bod P f
  run : ∀ (w : World) (s : Sb) (vs : List Value), (∀ B o, s B o → B < w.heap.size) → Glb w s → AllV w s args vs → Calls P f vs.toArray w fun e w' => ∃ s' v, e = .returned v ∧ out.p w' s' v ∧ PStp w s w' s'
def ArgsOk (tm : List (Nat × TV)) : List Operand → List PV → Prop
  | [], [] => True
  | x :: r, d :: q => (∃ t, Opd tm x t ∧ t.toPV = some d) ∧ ArgsOk tm r q
  | _, _ => False
theorem ArgsOk.all {w : World} {s : Sb} {g : Gh} {tm : List (Nat × TV)} {a : Act} (ht : TmOk w s g tm a) : ∀ {l : List Operand} {ds : List PV}, ArgsOk tm l ds → AllV w s ds (l.map a.eval)
  | [], [], _ => trivial
  | x :: r, d :: q, h => by
    obtain ⟨⟨t, h1, h2⟩, h3⟩ := h
    exact ⟨TV.weak h2 (Opd.eval ht h1), ArgsOk.all ht h3⟩
  | [], _ :: _, h => h.elim
  | _ :: _, [], h => h.elim
theorem callFunc_run {P : Program} {f : FuncId} (h : Bod P f) (args : Array Value) (w : World) : (callFunc f args).run P w = .ok (.enter f args) w := by
  obtain ⟨fn, h1, h2, h3⟩ := h.h
  have hp : (program : Sem Program).run P w = .ok P w := rfl
  simp only [callFunc, Sem.run_bind, hp, Result.andThen_ok, h1, h2, h3, if_false, Bool.false_eq_true, Sem.run_pure]
theorem u_call {f : FuncId} {xs : List Operand} {ts : Array TypeId} {args : List PV} {out : PV} (hF : PFun P f args out) (ha : ArgsOk tm xs args) :
    UOp P ⟨dst, .call { callee := .value (.func f), args := xs.toArray, argTypes := ts }, ty, pos, aft, gd⟩ tm [] (.pv out) [] := by
  intro w s g a K Q ht hg hK
  have h1 := ha.all ht
  have he : (execOp a.eval ⟨dst, .call { callee := .value (.func f), args := xs.toArray, argTypes := ts }, ty, pos, aft, gd⟩).run P w = .ok (.enter f (xs.map a.eval).toArray) w := by
    have hev : a.eval (.func f) = .func (.func f) #[] #[] := rfl
    simp only [execOp, resolve, hev, Deferred.ofValue, Sem.run_bind, Sem.run_pure, Result.andThen_ok, invoke]
    simpa using callFunc_run hF.bod _ w
  unfold Oper.wp
  rw [he]
  refine (hF.run w s _ hg.lt hg.gl h1).mono ?_
  rintro e w' ⟨s', v, rfl, hv, hp⟩
  exact hK w' s' g v hv (hp.stp g)
end
end Go.Proofs.YtfkaepjlmgolhaaGreatDoor

/- Abstract execution: regions in the order of the text, code, functions. Nothing here speaks of the program. -/
namespace Go.Proofs.YtfkaepjlmgolhaaGreatDoor
open Go.RowKit

section
variable {P : Program} {b : Ba} {ops : Array Oper}
/-- Whether a guarded operation is carried out. -/
def Gd (ops : Array Oper) (tm : List (Nat × TV)) : Option (Nat × Bool) → Bool → Prop
  | none, yes => yes = true
  | some (j, want), yes => ∃ t c, (ops[j]?).bind (·.dst) = some t ∧ fnd t tm = some (.pv (PV.lit (.bool c))) ∧ (c == want) = yes
theorem Gd.wanted {w : World} {s : Sb} {g : Gh} {tm : List (Nat × TV)} {a : Act} (ht : TmOk w s g tm a) {o : Oper} {yes : Bool} (h : Gd ops tm o.guard yes) : Region.wanted o (yielded ops a.tmps) = yes := by
  unfold Region.wanted
  cases hg : o.guard with
  | none => rw [hg] at h; exact Eq.symm h
  | some x =>
    obtain ⟨j, want⟩ := x
    rw [hg] at h
    obtain ⟨t, c, h1, h2, h3⟩ := h
    obtain ⟨v, h4, h5⟩ := ht t _ h2
    have e : v = .bool c := h5
    subst e
    have hy : yielded ops a.tmps j = some c := by unfold yielded; rw [h1]; simp [h4]
    simp only [hy]
    rw [← h3]
    cases c <;> cases want <;> rfl
def putT (dst : Option Tmp) (d : TV) (tm : List (Nat × TV)) : List (Nat × TV) := match dst with | some t => (t, d) :: tm | none => tm
def dstB (dst : Option Tmp) (n : Nat) : Bool := match dst with | some t => Nat.blt t n | none => true
theorem dstB_lt {dst : Option Tmp} {n : Nat} (h : dstB dst n = true) : ∀ d, dst = some d → d < n := by
  rintro d rfl
  exact Nat.le_of_ble_eq_true h
/-- The operations that are left bring the state S to one that K allows. -/
def Run (P : Program) (b : Ba) (ops : Array Oper) (l : List Oper) (S : Ste) (K : Ste → Prop) : Prop :=
  ∀ (w : World) (s : Sb) (g : Gh) (a : Act) (Q : Exit → Act → World → Prop), Rel b w s g S a → (∀ w' s' g' a' S', Rel b w' s' g' S' a' → K S' → Q .normal a' w') → wpList P ops Q l a w
theorem run_nil {S : Ste} {K : Ste → Prop} (h : K S) : Run P b ops [] S K := fun w s g a _ hr hK => hK w s g a S hr h
/-- The state may be told in another way. -/
theorem Rel.congr {w : World} {s : Sb} {g : Gh} {tm tm' : List (Nat × TV)} {ow ow' : List (Nat × Own)} {nx nx' : Nat} {a : Act} (h : Rel b w s g ⟨tm, ow, nx⟩ a) (ht : ∀ t d, fnd t tm' = some d → fnd t tm = some d) (ho : ∀ k c, fnd k ow' = some c → fnd k ow = some c) (hn : nx ≤ nx') : Rel b w s g ⟨tm', ow', nx'⟩ a :=
  ⟨h.kp, h.lt, h.sz, fun t d hf => h.tm t d (ht t d hf), fun k c hf => h.ow k c (ho k c hf), fun k k' c c' N h1 h2 => h.sep k k' c c' N (ho k c h1) (ho k' c' h2), fun k hk => h.fr k (Nat.le_trans hn hk), h.df⟩
theorem Rel.tmok {w : World} {s : Sb} {g : Gh} {S : Ste} {a : Act} (h : Rel b w s g S a) : TmOk w s g S.tm a := h.tm
theorem run_skip {o : Oper} {rest : List Oper} {S : Ste} {K : Ste → Prop} (hg : Gd ops S.tm o.guard false) (hd : dstB o.dst b.sz = true) (h : Run P b ops rest ⟨putT o.dst (.pv (PV.lit undef)) S.tm, S.ow, S.nx⟩ K) : Run P b ops (o :: rest) S K := by
  intro w s g a Q hr hK
  refine wpList_step fun K' hK' => ?_
  rw [hg.wanted hr.tmok]
  simp only [Bool.false_eq_true, if_false]
  refine hK' _ _ (h w s g _ Q ?_ hK)
  exact (hr.step (acc := []) (acc' := []) (dst := o.dst) (out := .pv (PV.lit undef)) (v := undef) (nx := S.nx) (Stp.refl w s g hr.lt) (fun k c h => by cases h) (fun k c h => by cases h) (Nat.le_refl _) (fun k c h => by cases h) (dstB_lt hd) rfl).congr (fun _ _ h => h) (fun _ _ h => h) (Nat.le_refl _)
/-- An operation that owns nothing. -/
theorem run_u {o : Oper} {rest : List Oper} {tm : List (Nat × TV)} {ow : List (Nat × Own)} {nx : Nat} {out : TV} {K : Ste → Prop} (hu : UOp P o tm [] out []) (hg : Gd ops tm o.guard true) (hd : dstB o.dst b.sz = true) (h : Run P b ops rest ⟨putT o.dst out tm, ow, nx⟩ K) : Run P b ops (o :: rest) ⟨tm, ow, nx⟩ K := by
  intro w s g a Q hr hK
  refine wpList_step fun K' hK' => ?_
  rw [hg.wanted hr.tmok]
  simp only [if_true]
  refine hu w s g a K' Q hr.tmok ⟨hr.lt, (fun k c h => by cases h), (fun k k' c c' N h => by cases h), (fun k c h => by cases h), hr.kp.gb⟩ fun w' s' g' v hv hp => hK' _ _ (h w' s' g' _ Q ?_ hK)
  exact (hr.step (nx := nx) hp (fun k c h => by cases h) (fun k c h => by cases h) (Nat.le_refl _) (fun k c h => by cases h) (dstB_lt hd) hv).congr (fun _ _ h => h) (fun _ _ h => h) (Nat.le_refl _)
theorem fnd_one {k j : Nat} {c c0 : Own} (h : fnd j [(k, c0)] = some c) : j = k ∧ c = c0 := by
  rw [fnd_cons] at h
  by_cases e : k = j
  · simp only [e, if_true] at h; cases h; exact ⟨e.symm, rfl⟩
  · simp only [e, if_false] at h; cases h
theorem Rel.good {w : World} {s : Sb} {g : Gh} {S : Ste} {a : Act} (h : Rel b w s g S a) {k : Nat} {c c' : Own} (hk : fnd k S.ow = some c) : Good w s g [(k, c)] [(k, c')] :=
  ⟨h.lt, fun j d hj => by obtain ⟨rfl, rfl⟩ := fnd_one hj; exact (h.ow _ _ hk).1, fun j j' d d' N h1 h2 hne => by
    obtain ⟨rfl, rfl⟩ := fnd_one h1
    obtain ⟨rfl, rfl⟩ := fnd_one h2
    exact absurd rfl hne, (fun j d h1 h2 => by
    obtain ⟨rfl, rfl⟩ := fnd_one h1
    rw [fnd_cons] at h2
    simp at h2), h.kp.gb⟩
/-- An operation that reads what is owned. -/
theorem run_r {o : Oper} {rest : List Oper} {tm : List (Nat × TV)} {ow : List (Nat × Own)} {nx k : Nat} {c : Own} {out : TV} {K : Ste → Prop} (hu : UOp P o tm [(k, c)] out [(k, c)]) (hk : fnd k ow = some c) (hg : Gd ops tm o.guard true) (hd : dstB o.dst b.sz = true) (h : Run P b ops rest ⟨putT o.dst out tm, ow, nx⟩ K) : Run P b ops (o :: rest) ⟨tm, ow, nx⟩ K := by
  intro w s g a Q hr hK
  refine wpList_step fun K' hK' => ?_
  rw [hg.wanted hr.tmok]
  simp only [if_true]
  have hkn : k < nx := by
    rcases Nat.lt_or_ge k nx with h1 | h1
    · exact h1
    · exfalso
      have h2 := (hr.ow k c hk).1
      obtain ⟨f1, f2⟩ := hr.fr k h1
      match c, h2 with
      | .box t cs, ⟨N, vs, e, _⟩ => rw [f1] at e; cases e
      | .row t sz len, ⟨_, v, e, _⟩ => rw [f2] at e; cases e
  refine hu w s g a K' Q hr.tmok (hr.good hk) fun w' s' g' v hv hp => hK' _ _ (h w' s' g' _ Q ?_ hK)
  refine (hr.step (nx := nx) hp (fun j d hj => by obtain ⟨rfl, rfl⟩ := fnd_one hj; exact hk) (fun j d hj => .inl ⟨d, hj⟩) (Nat.le_refl _) (fun j d hj => by obtain ⟨rfl, rfl⟩ := fnd_one hj; exact hkn) (dstB_lt hd) hv).congr (fun _ _ h => h) (fun j d hj => ?_) (Nat.le_refl _)
  show fnd j ([(k, c)] ++ ow) = some d
  rw [fnd_append]
  cases h1 : fnd j [(k, c)] with
  | none => exact hj
  | some d' =>
    obtain ⟨rfl, rfl⟩ := fnd_one h1
    rw [hk] at hj
    exact hj
/-- An operation that turns what is owned. -/
theorem run_w {o : Oper} {rest : List Oper} {tm : List (Nat × TV)} {ow : List (Nat × Own)} {nx k : Nat} {c c' : Own} {out : TV} {K : Ste → Prop} (hu : UOp P o tm [(k, c)] out [(k, c')]) (hk : fnd k ow = some c) (hg : Gd ops tm o.guard true) (hd : dstB o.dst b.sz = true) (h : Run P b ops rest ⟨putT o.dst out tm, (k, c') :: ow, nx⟩ K) : Run P b ops (o :: rest) ⟨tm, ow, nx⟩ K := by
  intro w s g a Q hr hK
  refine wpList_step fun K' hK' => ?_
  rw [hg.wanted hr.tmok]
  simp only [if_true]
  have hkn : k < nx := by
    rcases Nat.lt_or_ge k nx with h1 | h1
    · exact h1
    · exfalso
      have h2 := (hr.ow k c hk).1
      obtain ⟨f1, f2⟩ := hr.fr k h1
      match c, h2 with
      | .box t cs, ⟨N, vs, e, _⟩ => rw [f1] at e; cases e
      | .row t sz len, ⟨_, v, e, _⟩ => rw [f2] at e; cases e
  refine hu w s g a K' Q hr.tmok (hr.good hk) fun w' s' g' v hv hp => hK' _ _ (h w' s' g' _ Q ?_ hK)
  exact (hr.step (nx := nx) hp (fun j d hj => by obtain ⟨rfl, rfl⟩ := fnd_one hj; exact hk) (fun j d hj => by obtain ⟨rfl, rfl⟩ := fnd_one hj; exact .inl ⟨c, by rw [fnd_cons]; simp⟩) (Nat.le_refl _) (fun j d hj => by obtain ⟨rfl, rfl⟩ := fnd_one hj; exact hkn) (dstB_lt hd) hv).congr (fun _ _ h => h) (fun j d hj => hj) (Nat.le_refl _)
/-- An operation that makes something of its own. -/
theorem run_n {o : Oper} {rest : List Oper} {tm : List (Nat × TV)} {ow : List (Nat × Own)} {nx : Nat} {c : Own} {out : TV} {K : Ste → Prop} (hu : UOp P o tm [] out [(nx, c)]) (hg : Gd ops tm o.guard true) (hd : dstB o.dst b.sz = true) (h : Run P b ops rest ⟨putT o.dst out tm, (nx, c) :: ow, nx + 1⟩ K) : Run P b ops (o :: rest) ⟨tm, ow, nx⟩ K := by
  intro w s g a Q hr hK
  refine wpList_step fun K' hK' => ?_
  rw [hg.wanted hr.tmok]
  simp only [if_true]
  refine hu w s g a K' Q hr.tmok ⟨hr.lt, (fun k c h => by cases h), (fun k k' c c' N h => by cases h), (fun k c h _ => by obtain ⟨rfl, rfl⟩ := fnd_one h; exact hr.fr _ (Nat.le_refl _)), hr.kp.gb⟩ fun w' s' g' v hv hp => hK' _ _ (h w' s' g' _ Q ?_ hK)
  exact (hr.step (nx := nx + 1) hp (fun k c h => by cases h) (fun k c h => by obtain ⟨rfl, rfl⟩ := fnd_one h; exact .inr (Nat.le_refl _)) (Nat.le_succ _) (fun k c h => by obtain ⟨rfl, rfl⟩ := fnd_one h; exact Nat.lt_succ_self _) (dstB_lt hd) hv).congr (fun _ _ h => h) (fun _ _ h => h) (Nat.le_refl _)
/-- Only these temporaries go on. -/
def keepT (l : List Nat) (tm : List (Nat × TV)) : List (Nat × TV) := match l with | [] => [] | t :: l => match fnd t tm with | some d => (t, d) :: keepT l tm | none => keepT l tm
theorem keepT_fnd {tm : List (Nat × TV)} {t : Nat} {d : TV} : ∀ {l : List Nat}, fnd t (keepT l tm) = some d → fnd t tm = some d
  | [], h => by cases h
  | u :: l, h => by
    unfold keepT at h
    cases hu : fnd u tm with
    | none => rw [hu] at h; exact keepT_fnd h
    | some e =>
      rw [hu] at h
      simp only [fnd_cons] at h
      by_cases e : u = t
      · subst e; simp at h; rw [hu, h]
      · simp only [e, if_false] at h; exact keepT_fnd h
theorem run_keep (l : List Nat) {rest : List Oper} {tm : List (Nat × TV)} {ow : List (Nat × Own)} {nx : Nat} {K : Ste → Prop} (h : Run P b ops rest ⟨keepT l tm, ow, nx⟩ K) : Run P b ops rest ⟨tm, ow, nx⟩ K :=
  fun w s g a Q hr hK => h w s g a Q (hr.congr (fun _ _ h => keepT_fnd h) (fun _ _ h => h) (Nat.le_refl _)) hK

/-- Code that brings the state S to an end that K allows. -/
def Cod (P : Program) (b : Ba) (c : Code) (S : Ste) (K : Exit → Ste → Prop) : Prop :=
  ∀ (w : World) (s : Sb) (g : Gh) (a : Act) (Q : Exit → Act → World → Prop), Rel b w s g S a → (∀ ex w' s' g' a' S', Rel b w' s' g' S' a' → K ex S' → Q ex a' w') → c.wp P Q a w
theorem cod_region {id : Nat} {l : List Oper} {S : Ste} {K : Exit → Ste → Prop} (h : Run P b l.toArray l S (K .normal)) : Cod P b (.region id l.toArray false) S K :=
  fun w s g a Q hr hK => wp_region_lit (h w s g a Q hr fun w' s' g' a' S' h1 h2 => hK .normal w' s' g' a' S' h1 h2)
theorem cod_seq {x y : Code} {S : Ste} {K : Exit → Ste → Prop} (h : Cod P b x S fun ex S' => match ex with | .normal => Cod P b y S' K | e => K e S') : Cod P b (.seq x y) S K :=
  fun w s g a Q hr hK => wp_seq (h w s g a _ hr fun ex w' s' g' a' S' h1 h2 => by
    cases ex with
    | normal => exact h2 w' s' g' a' Q h1 hK
    | _ => exact hK _ w' s' g' a' S' h1 h2)
theorem cod_skip {S : Ste} {K : Exit → Ste → Prop} (h : K .normal S) : Cod P b .skip S K := fun w s g a _ hr hK => wp_skip (hK _ w s g a S hr h)
theorem cod_ret {S : Ste} {K : Exit → Ste → Prop} (h : K .ret S) : Cod P b .ret S K := fun w s g a _ hr hK => wp_ret (hK _ w s g a S hr h)
theorem cod_exit {id : Nat} {S : Ste} {K : Exit → Ste → Prop} (h : K (.exit id) S) : Cod P b (.exit id) S K := fun w s g a _ hr hK => wp_exit (hK _ w s g a S hr h)
theorem cod_cond {c : Operand} {x y : Code} {S : Ste} {K : Exit → Ste → Prop} {t : Bool} (hc : Opd S.tm c (.pv (PV.lit (.bool t)))) (h1 : t = true → Cod P b x S K) (h2 : t = false → Cod P b y S K) : Cod P b (.cond c x y) S K :=
  fun w s g a Q hr hK => wp_cond_split (Opd.lit hr.tmok hc) (fun e => h1 e w s g a Q hr hK) (fun e => h2 e w s g a Q hr hK)
def exB (id : Nat) (K : Exit → Ste → Prop) (ex : Exit) (S : Ste) : Prop := match ex with | .exit j => if j = id then K .normal S else K (.exit j) S | e => K e S
theorem cod_block {id : Nat} {c : Code} {S : Ste} {K : Exit → Ste → Prop} (h : Cod P b c S (exB id K)) : Cod P b (.block id c) S K :=
  fun w s g a Q hr hK => wp_block (h w s g a _ hr fun ex w' s' g' a' S' h1 h2 => by
    cases ex with
    | exit j =>
      show if j = id then Q .normal a' w' else Q (.exit j) a' w'
      have h3 : if j = id then K .normal S' else K (.exit j) S' := h2
      by_cases e : j = id
      · rw [if_pos e] at h3 ⊢; exact hK _ w' s' g' a' S' h1 h3
      · rw [if_neg e] at h3 ⊢; exact hK _ w' s' g' a' S' h1 h3
    | _ => exact hK _ w' s' g' a' S' h1 h2)
theorem cod_mono {c : Code} {S : Ste} {K K' : Exit → Ste → Prop} (h : Cod P b c S K') (hK : ∀ ex S', K' ex S' → K ex S') : Cod P b c S K :=
  fun w s g a Q hr hQ => h w s g a Q hr fun ex w' s' g' a' S' h1 h2 => hQ ex w' s' g' a' S' h1 (hK _ _ h2)
theorem cod_keep (l : List Nat) {c : Code} {tm : List (Nat × TV)} {ow : List (Nat × Own)} {nx : Nat} {K : Exit → Ste → Prop} (h : Cod P b c ⟨keepT l tm, ow, nx⟩ K) : Cod P b c ⟨tm, ow, nx⟩ K :=
  fun w s g a Q hr hK => h w s g a Q (hr.congr (fun _ _ h => keepT_fnd h) (fun _ _ h => h) (Nat.le_refl _)) hK

/-- What holds of S holds of S'. -/
def Le (b : Ba) (S S' : Ste) : Prop := ∀ w s g a, Rel b w s g S a → ∃ s' g', Rel b w s' g' S' a
theorem Le.refl (S : Ste) : Le b S S := fun _ s g _ h => ⟨s, g, h⟩
theorem Le.trans {S S' S'' : Ste} (h : Le b S S') (h' : Le b S' S'') : Le b S S'' := fun w s g a hr => by
  obtain ⟨s', g', h1⟩ := h w s g a hr
  exact h' w s' g' a h1
theorem cod_le {c : Code} {S S' : Ste} {K : Exit → Ste → Prop} (hl : Le b S S') (h : Cod P b c S' K) : Cod P b c S K := fun w s g a Q hr hK => by
  obtain ⟨s', g', h1⟩ := hl w s g a hr
  exact h w s' g' a Q h1 hK
theorem least_exists {p : Nat → Prop} : ∀ (n : Nat), p n → ∃ m, p m ∧ ∀ k, p k → m ≤ k := by
  intro n
  induction n using Nat.strongRecOn with
  | ind n ih =>
    intro h
    by_cases hm : ∃ k, k < n ∧ p k
    · obtain ⟨k, h1, h2⟩ := hm
      exact ih k h1 h2
    · refine ⟨n, h, fun k hk => ?_⟩
      rcases Nat.lt_or_ge k n with h1 | h1
      · exact absurd ⟨k, h1, hk⟩ hm
      · exact h1
open Classical in
noncomputable def leastOf (p : Nat → Prop) : Nat := if h : ∃ m, p m ∧ ∀ k, p k → m ≤ k then Classical.choose h else 0
theorem leastOf_spec {p : Nat → Prop} (h : ∃ n, p n) : p (leastOf p) ∧ ∀ k, p k → leastOf p ≤ k := by
  obtain ⟨n, hn⟩ := h
  have hm := least_exists n hn
  unfold leastOf
  rw [dif_pos hm]
  exact Classical.choose_spec hm
theorem leastOf_le {p : Nat → Prop} {n : Nat} (h : p n) : leastOf p ≤ n := (leastOf_spec ⟨n, h⟩).2 n h
/-- A loop: what holds at the head of a round, and what each round lessens. -/
theorem cod_loop {ι : Type} (I : ι → Ste) (μ : ι → Nat) {c : Code} {S : Ste} {K : Exit → Ste → Prop} (x0 : ι) (h0 : Le b S (I x0))
    (h : ∀ x, Cod P b c (I x) fun ex S' => match ex with | .normal => ∃ y, Le b S' (I y) ∧ μ y < μ x | e => K e S') : Cod P b (.loop c) S K := by
  intro w s g a Q hr hK
  let p : Act → World → Nat → Prop := fun a w n => ∃ y s g, Rel b w s g (I y) a ∧ μ y = n
  obtain ⟨s', g', h1⟩ := h0 w s g a hr
  refine wp_loop (fun a' w' => ∃ n, p a' w' n) (fun a' w' => leastOf (p a' w')) ⟨_, x0, s', g', h1, rfl⟩ ?_
  intro a' w' hI
  obtain ⟨y, s2, g2, h2, h3⟩ := (leastOf_spec hI).1
  refine h y w' s2 g2 a' _ h2 fun ex w3 s3 g3 a3 S3 h4 h5 => ?_
  cases ex with
  | normal =>
    obtain ⟨z, h6, h7⟩ := h5
    obtain ⟨s4, g4, h8⟩ := h6 w3 s3 g3 a3 h4
    have h9 : p a3 w3 (μ z) := ⟨z, s4, g4, h8, rfl⟩
    refine ⟨⟨_, h9⟩, ?_⟩
    have := leastOf_le h9
    show leastOf (p a3 w3) < leastOf (p a' w')
    omega
  | _ => exact hK _ w3 s3 g3 a3 S3 h4 h5
end
end Go.Proofs.YtfkaepjlmgolhaaGreatDoor
