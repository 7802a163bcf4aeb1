/- Part 15 of the proof. -/
import Derived.Test.YtnkjenaanjnihaaGreatDoorV12
import Derived.Test.YtnkjenaanjnihaaGreatDoorV14
import Derived.Test.YtnkjenaanjnihaaGreatDoorV13
import Derived.Test.YtnkjenaanjnihaaGreatDoorV5


/- The shelf's contracts and RatioOk's, as contracts of data. -/
namespace Go.Proofs.YtnkjenaanjnihaaGreatDoor
open Go.RowKit
theorem PStp.ofBelow {w w' : World} {s : Sb} (hlt : ∀ B o, s B o → B < w.heap.size) (h : Below w.heap.size w w') : PStp w s w' s :=
  ⟨⟨fun _ _ h => h, (fun b o hs => World.cell?_of_block (h.block b (hlt b o hs))), fun _ _ h => h⟩, fun B o hs => Nat.lt_of_lt_of_le (hlt B o hs) h.size, h.os, h.tape, h.output, h.size, h.block, fun _ _ h => .inl h, fun _ _ h => .inl h⟩
theorem fn_rowS {P : Program} {f : FuncId} {args : List D} {l : List ByteArray} {t : TypeId} (hb : Bod P f) (hm : l.length ≤ 9223372036854775807) (h : ∀ (w : World) (s : Sb) (vs : List Value), Glb w s → AllV w s (D.pvs args) vs → Calls P f vs.toArray w fun e w' => e = .returned (.slice (some ⟨w.heap.size, 0, none⟩) l.length l.length) ∧ w' = w.alloc (.cells (l.map Value.string).toArray t)) : Fn P f args (ssD l) := by
  refine ⟨hb, fun w s vs hlt hg hv => (h w s vs hg hv).mono ?_⟩
  rintro e w' ⟨rfl, rfl⟩
  have hst := Stp.newStable (w := w) (s := s) (g := ⟨fun _ => none, fun _ _ => none⟩) hlt (.cells (l.map Value.string).toArray t)
  refine ⟨s.add fun B _ => B = w.heap.size, _, rfl, ⟨_, _, by simp, by simp, hm, ?_, fun i row hr => ⟨w.heap.size, 0, rfl, fun j d hd => ?_⟩⟩, hst.ex, hst.lt, rfl, rfl, rfl, by simp, fun N hN => Below.heap_alloc w _ N hN, fun B o hs => hs.imp id fun e => by omega, fun B o hs => hs.imp id fun e => by omega⟩
  · intro row hr
    obtain ⟨p, _, rfl⟩ := List.mem_map.1 hr
    rfl
  · rw [List.getElem?_map] at hr
    cases hp : l[i]? with
    | none => rw [hp] at hr; simp at hr
    | some p =>
      rw [hp] at hr; simp at hr; subst hr
      have hj : j = 0 ∧ d = PV.lit (.string p) := by
        match j, hd with
        | 0, hd => simp [sD, D.pvs, D.pv] at hd; exact ⟨rfl, hd.symm⟩
        | j + 1, hd => simp [sD, D.pvs] at hd
      obtain ⟨rfl, rfl⟩ := hj
      refine ⟨.string p, ?_, .inr rfl, rfl, rfl⟩
      rw [cell_of_row _ w.heap.size _ _ t (0, 0) (heap_alloc_new w _)]
      simp [hp]
theorem allV_one {w : World} {s : Sb} {x : Value} {vs : List Value} (h : AllV w s (D.pvs [.v x]) vs) : vs = [x] := by
  match vs, h with
  | [v], h => have : v = x := h.1; rw [this]
  | [], h => exact h.elim
  | _ :: _ :: _, h => exact h.2.elim
theorem allV_two {w : World} {s : Sb} {x y : Value} {vs : List Value} (h : AllV w s (D.pvs [.v x, .v y]) vs) : vs = [x, y] := by
  match vs, h with
  | [v, u], h =>
    have h1 : v = x := h.1
    have h2 : u = y := h.2.1
    rw [h1, h2]
  | [], h => exact h.elim
  | [_], h => exact h.2.elim
  | _ :: _ :: _ :: _, h => exact h.2.2.elim
def splitS (p sep : ByteArray) : List ByteArray := Lib.splitB sep 0 (Lib.countB p sep) p
end Go.Proofs.YtnkjenaanjnihaaGreatDoor


/- Walks by the evaluator: values; copies of lists. -/
namespace Go.Proofs.YtnkjenaanjnihaaGreatDoor
open Go.RowKit
variable {md me : Bool}
structure VlIn (x : Vl) : Prop where
  k1 : -9223372036854775808 ≤ x.k
  k2 : x.k ≤ 9223372036854775807
  r1 : -9223372036854775808 ≤ x.r
  r2 : x.r ≤ 9223372036854775807
  nl : Lg x.nl
  dl : Lg x.dl
  nn : x.nl.length ≤ 2000000
  dn : x.dl.length ≤ 2000000
  s : x.s.size ≤ 2000000
theorem lenMap {α : Type} {β : Type 1} {l : List α} {f : α → β} (h : l.length ≤ 2000000) : (l.map f).length ≤ 1073741824 := by rw [List.length_map]; omega
structure Up (n : Nat) (p : Nat → Bool) where
  k : Nat
  le : k ≤ n
  all : ∀ j, j < k → p j = true
def Up.next {n : Nat} {p : Nat → Bool} (x : Up n p) (h1 : x.k < n) (h2 : p x.k = true) : Up n p := ⟨x.k + 1, by omega, fun j hj => by
  rcases Nat.lt_succ_iff_lt_or_eq.1 hj with h | rfl
  · exact x.all j h
  · exact h2⟩
def lttI (b : Int) : Bool := (decide (b = 95) || (decide (97 ≤ b) && decide (b ≤ 122))) || (decide (65 ≤ b) && decide (b ≤ 90))
def nmP (s : ByteArray) (i : Nat) : Bool := !(!lttI (bAt s i) && ((decide ((i : Int) = 0) || decide ((bAt s i : Int) < 48)) || decide (57 < (bAt s i : Int))))
def nameOkS (s : ByteArray) : Bool := !(decide ((s.size : Int) < 1) || decide (24 < (s.size : Int))) && (List.range s.size).all (nmP s)
def dotS (s : ByteArray) : Bool := (splitS s ⟨#[46]⟩).all nameOkS && decide ((s.size : Int) ≤ 60)
def emS (s : ByteArray) : Bool := decide (s = ⟨#[]⟩)
def zI (b : Bool) (l : List Nat) : Bool := smI b l false []
def oneS (l : List Nat) : Bool := decide ((l.length : Int) = 1) && decide (((l.getD 0 0 : Nat) : Int) = 1)
def shr1 (r : Int) : Int := r.fdiv (2 ^ (min (Int.toNat 1) (IntKind.i64).bits))
def vokS (v : Vl) : Bool :=
  if v.k = 0 ∨ v.k = 8 then ((zI v.nn v.nl && zI v.dn v.dl) && emS v.s) && decide (v.r = 0)
  else if v.k = 1 then ((zI v.nn v.nl && zI v.dn v.dl) && emS v.s) && decide (shr1 v.r = 0)
  else if v.k = 2 then ((intOk v.nn v.nl && zI v.dn v.dl) && emS v.s) && decide (v.r = 0)
  else if v.k = 3 then ((ratS v.nn v.nl v.dn v.dl && !oneS v.dl) && emS v.s) && decide (v.r = 0)
  else if v.k = 4 then (((zI v.nn v.nl && zI v.dn v.dl) && decide (v.r = 0)) && Lib.validD v.s.data.toList) && decide ((v.s.size : Int) ≤ 4000)
  else if v.k = 5 then ((zI v.nn v.nl && zI v.dn v.dl) && decide (v.r = 0)) && decide ((v.s.size : Int) ≤ 4000)
  else if v.k = 7 then ((zI v.nn v.nl && zI v.dn v.dl) && decide (v.r = 0)) && dotS v.s
  else if v.k = 6 then (zI v.nn v.nl && zI v.dn v.dl) && emS v.s
  else false
def usesB : ByteArray := ⟨#[32, 42, 32, 42, 32, 107, 58, 32, 107, 48, 32, 51, 32, 49, 32, 110, 99, 114, 100, 115, 42, 32, 50, 32, 110, 114, 97, 115, 61, 32, 99, 97, 61, 32, 110, 97, 61, 32, 51, 32, 49, 32, 49, 32, 50, 32, 115, 50, 32, 110, 100, 115, 42, 32, 115, 48, 32, 115, 50, 32, 49]⟩
def usesL : List ByteArray := splitS usesB ⟨#[32]⟩
def usedS (k : Int) : ByteArray := usesL.getD k.toNat ByteArray.empty
end Go.Proofs.YtnkjenaanjnihaaGreatDoor


/- Walks by the evaluator: the first four groups of requirements of an object. -/
namespace Go.Proofs.YtnkjenaanjnihaaGreatDoor
open Go.RowKit
variable {md me : Bool}
structure ObIn (o : Ob) : Prop where
  kd : -9223372036854775808 ≤ o.kind ∧ o.kind ≤ 9223372036854775807
  cl : -9223372036854775808 ≤ o.cls ∧ o.cls ≤ 9223372036854775807
  co : -9223372036854775808 ≤ o.code ∧ o.code ≤ 9223372036854775807
  st : -9223372036854775808 ≤ o.state ∧ o.state ≤ 9223372036854775807
  nm : o.name.size ≤ 2000000
  rl : o.refs.length ≤ 2000000
  ol : o.order.length ≤ 2000000
  nl : o.names.length ≤ 2000000
  il : o.items.length ≤ 2000000
  kl : o.keys.length ≤ 2000000
  ns : ∀ s ∈ o.names, s.size ≤ 2000000
  iv : ∀ v ∈ o.items, VlIn v
  kv : ∀ v ∈ o.keys, VlIn v
theorem ob0_in : ObIn ob0 := ⟨by decide, by decide, by decide, by decide, by decide, by decide, by decide, by decide, by decide, by decide, (fun _ h => by cases h), (fun _ h => by cases h), (fun _ h => by cases h)⟩
structure HpIn (h : List Ob) : Prop where
  ob : ∀ o ∈ h, ObIn o
  len : h.length ≤ 2000000
theorem HpIn.at {h : List Ob} (hh : HpIn h) (n : Int) : ObIn (obAt h n) := by
  show ObIn (h.getD n.toNat ob0)
  rw [List.getD_eq_getElem?_getD]
  cases hq : h[n.toNat]? with
  | none => exact ob0_in
  | some o => exact hh.ob o (List.mem_of_getElem? hq)
def lettersB : ByteArray := ⟨#[110, 99, 114, 97, 107, 100, 115]⟩
def emptyS (o : Ob) : List Bool := [decide (o.name = ⟨#[]⟩), decide (o.cls = 0), decide ((o.refs.length : Int) = 0), decide ((o.names.length : Int) = 0), decide ((o.keys.length : Int) = 0), decide (o.code = 0), decide (o.state = 0)]
def ltP (o : Ob) (i : Nat) : Bool := !(!((emptyS o).getD ((i : Int)).toNat false) && !(Lib.contains (usedS o.kind).data.toList (lettersB.extract ((i : Int)).toNat ((i : Int) + 1).toNat).data.toList))
abbrev lastC (u : ByteArray) : Int := (bAt u ((u.size : Int) - 1).toNat : Nat)
def cntS (o : Ob) : Int := if usedS o.kind = ⟨#[]⟩ then 0 else if lastC (usedS o.kind) = 42 then o.items.length else if lastC (usedS o.kind) = 61 then o.names.length else if lastC (usedS o.kind) = 58 then o.keys.length else IntKind.i64.wrap (IntKind.u8.wrap (lastC (usedS o.kind) - 48))
def tailS (o : Ob) : Bool := ((((!decide ((o.items.length : Int) = cntS o) || decide (o.code < 0)) || decide (o.state < 0)) || decide (greatS o.kind < o.state)) || (!decide (o.kind = 9) && decide (0 < (o.order.length : Int))))
def shapeS (o : Ob) : Int := if (List.range 7).all (ltP o) = true then (if tailS o = true then 6 else 0) else 6
def nameS (o : Ob) : Bool := if o.kind = 11 then dotS o.name else nameOkS o.name
def mx3 (a b c : Int) : Int := if (if a < b then b else a) < c then c else (if a < b then b else a)
def sizesS (o : Ob) : Int := if (Lib.contains (usedS o.kind).data.toList [110] && !nameS o) = true then 7 else if (decide (1000 < mx3 o.items.length o.keys.length o.refs.length) || decide (200 < (o.names.length : Int))) = true then 2 else 0
def nmF : List ByteArray → List ByteArray → Int
  | _, [] => 0
  | seen, s :: r => if nameOkS s = false then 7 else if hasB seen s = true then 8 else nmF (seen ++ [s]) r
def namesS (o : Ob) : Int := nmF [] o.names
def fixV (o : Ob) (v : Vl) : Vl := if v.k = 9 ∧ (o.kind = 6 ∨ o.kind = 17) then { v with k := 0 } else v
def refsOf : List Vl → List Int
  | [] => []
  | v :: l => if v.k = 6 then v.r :: refsOf l else refsOf l
def numsB (o : Ob) : List Int := [o.cls] ++ o.refs ++ o.order
def numsS (o : Ob) : List Int := (numsB o ++ refsOf (o.keys ++ o.items)) ++ (if o.kind = 18 ∧ o.state ≠ 0 then [IntKind.i64.wrap (o.state - 1)] else [])
def valuesS (h : List Ob) (o : Ob) : Int := if ((o.keys ++ o.items).all fun v => vokS (fixV o v)) = true then (if (numsS o).all (isObj h) = true then 0 else 4) else 6
end Go.Proofs.YtnkjenaanjnihaaGreatDoor


/- Walks by the evaluator: the fourth group: values. -/
namespace Go.Proofs.YtnkjenaanjnihaaGreatDoor
open Go.RowKit
variable {md me : Bool}
end Go.Proofs.YtnkjenaanjnihaaGreatDoor


/- Walks by the evaluator: parts of values, keys and their sameness. -/
namespace Go.Proofs.YtnkjenaanjnihaaGreatDoor
open Go.RowKit
variable {md me : Bool}
def ptS (h : List Ob) : Nat → List Vl → List Vl → List Vl × Bool
  | 0, _, out => (out, true)
  | _ + 1, [], out => (out, true)
  | f + 1, x :: left, out => if ((((decide (x.k = 9) || decide ((objS h x).kind = 2)) || decide ((objS h x).kind = 3)) || decide ((objS h x).kind = 4)) || decide ((objS h x).kind = 5)) = true then (out ++ [x], false)
    else if (objS h x).kind = 1 then ptS h f ((objS h x).items.take (min (objS h x).items.length 1001) ++ left) (out ++ [x])
    else ptS h f left (out ++ [x])
def partsS (h : List Ob) (v : Vl) : List Vl × Bool := ptS h 1001 [v] []
def keyedS (h : List Ob) (v : Vl) : Bool := (partsS h v).2 && decide (((partsS h v).1.length : Int) ≤ 1000)
def prP (F : Vl → Vl → Bool) (a b : List Vl) (i : Nat) : Bool := F (a.getD ((i : Int)).toNat vl0) (b.getD ((i : Int)).toNat vl0)
def stepK (h : List Ob) (F : Vl → Vl → Bool) (v w : Vl) : Bool := if (objS h v).kind = 1 ∧ (objS h w).kind = 1 then (decide (((objS h v).items.length : Int) = (objS h w).items.length) && (List.range (objS h v).items.length).all (prP F (objS h v).items (objS h w).items)) else decide (v = w)
def smK (h : List Ob) : Nat → Vl → Vl → Bool
  | 0 => fun v w => decide (v = w)
  | n + 1 => stepK h (smK h n)
def krF (h : List Ob) : List Vl → List Vl → Int
  | _, [] => 0
  | seen, s :: r => if keyedS h s = false then 27 else if (seen.any fun x => smK h 1001 x s) = true then 8 else krF h (seen ++ [s]) r
def keyS (h : List Ob) (o : Ob) : Int := krF h [] o.keys
end Go.Proofs.YtnkjenaanjnihaaGreatDoor


/- Walks by the evaluator: linearizations. -/
namespace Go.Proofs.YtnkjenaanjnihaaGreatDoor
open Go.RowKit
variable {md me : Bool}
def hdI (l : List Int) : Int := l.getD 0 0
def inT (B : List (List Int)) (n : Int) : Bool := B.any fun x => hasB (x.drop 1) n
def lwI (a b : Int) : Int := if b < a then b else a
def lowS (l : List Int) : Int := l.foldl lwI 0
def twS (l : List Int) (k : Nat) : Bool := (List.range k).any fun j => hasB (l.take j) (l.getD j 0)
def ofF : List (List Int) → List (List Int) → Int × Int
  | _, [] => (0, 0)
  | seen, l :: r => if (l.length : Int) = 0 then (10, seen.length) else if (40 : Int) < l.length then (2, seen.length) else if lowS l < 0 then (4, seen.length) else if (twS l l.length || hasB (seen.map hdI) (hdI l)) = true then (8, seen.length) else ofF (seen ++ [l]) r
def ofS (B : List (List Int)) : Int × Int := if (8 : Int) < B.length then (2, -1) else ofF [] B
def fdF (left : List (List Int)) (a : Int × Bool) (l : List Int) : Int × Bool := if (!a.2 && !inT left (hdI l)) = true then (hdI l, true) else a
def fdS (left : List (List Int)) (k : Nat) : Int × Bool := (left.take k).foldl (fdF left) (0, false)
def shI (n : Int) (l : List Int) : List Int := if hdI l = n then l.drop 1 else l
def rsS (n : Int) (left : List (List Int)) : List (List Int) := (left.map (shI n)).filter fun l => decide (0 < (l.length : Int))
def mgF : Nat → List Int → List (List Int) → List Int × List (List Int)
  | 0, taken, _ => (taken, [])
  | _ + 1, taken, [] => (taken, [])
  | f + 1, taken, l :: left => if (fdS (l :: left) (l :: left).length).2 = false then (taken, l :: left) else mgF f (taken ++ [(fdS (l :: left) (l :: left).length).1]) (rsS (fdS (l :: left) (l :: left).length).1 (l :: left))
def lft0 (B : List (List Int)) : List (List Int) := if (0 : Int) < (B.map hdI).length then B ++ [B.map hdI] else B
def mgS (B : List (List Int)) : List Int × List (List Int) := mgF 400 [] (lft0 B)
def orderS (B : List (List Int)) : List Int × Int × Int := if ¬ (ofS B).1 = 0 then ([], ofS B) else if (0 : Int) < (mgS B).2.length then ([], (19, -1)) else if (40 : Int) ≤ (mgS B).1.length then ([], (14, -1)) else ((mgS B).1, (0, 0))
def ordsS (h : List Ob) (o : Ob) : List (List Int) := o.refs.map fun n => (obAt h n).order
def orderOkS (h : List Ob) (o : Ob) (i : Int) : Bool := if ¬ o.kind = 9 then true else decide ((orderS (ordsS h o)).2.1 = 0) && decide (o.order = [i] ++ (orderS (ordsS h o)).1)
end Go.Proofs.YtnkjenaanjnihaaGreatDoor


/- Walks by the evaluator: merging; the order of a class. -/
namespace Go.Proofs.YtnkjenaanjnihaaGreatDoor
open Go.RowKit
variable {md me : Bool}
end Go.Proofs.YtnkjenaanjnihaaGreatDoor


/- Walks by the evaluator: the order of bases; the seventh group. -/
namespace Go.Proofs.YtnkjenaanjnihaaGreatDoor
open Go.RowKit
variable {md me : Bool}
end Go.Proofs.YtnkjenaanjnihaaGreatDoor


/- Walks by the evaluator: the attributes of exceptions. -/
namespace Go.Proofs.YtnkjenaanjnihaaGreatDoor
open Go.RowKit
variable {md me : Bool}
def want4 : List ByteArray := [⟨#[97, 114, 103, 115]⟩, ⟨#[99, 97, 117, 115, 101]⟩, ⟨#[99, 111, 110, 116, 101, 120, 116]⟩, ⟨#[116, 114, 97, 99, 101]⟩]
def want5 : List ByteArray := want4 ++ [⟨#[109, 101, 109, 98, 101, 114, 115]⟩]
abbrev midV (l : List Vl) : List Vl := (l.drop (Int.toNat 1)).take ((3 : Int).toNat - Int.toNat 1)
def cauP (h : List Ob) (v : Vl) : Bool := !(!decide (v.k = 0) && !excS h v)
def mkP (h : List Ob) (v : Vl) : Bool := !(((!decide ((objS h v).kind = 1) || !decide (((objS h v).items.length : Int) = 2)) || !decide (((objS h v).items.getD (Int.toNat 0) vl0).k = 4)) || !decide (((objS h v).items.getD (Int.toNat 1) vl0).k = 2))
def memP (h : List Ob) (i : Int) (v : Vl) : Bool := !(!excS h v || decide (i ≤ v.r))
def wantB (o : Ob) (w : List ByteArray) : Bool := decide ((o.names.length : Int) < w.length) || !decide (((o.names.drop (Int.toNat 0)).take ((w.length : Int).toNat - Int.toNat 0)) = w)
def excOkS (h : List Ob) (o : Ob) (i : Int) : Bool :=
  if hasB (obAt h o.cls).order 48 = true then
    (if wantB o want5 = true then false
    else if (midV o.items).all (cauP h) = false then false
    else if (!decide ((objS h (o.items.getD (Int.toNat 0) vl0)).kind = 1) || !decide ((objS h (o.items.getD (Int.toNat 3) vl0)).kind = 1)) = true then false
    else if (objS h (o.items.getD (Int.toNat 3) vl0)).items.all (mkP h) = false then false
    else if (objS h (o.items.getD (Int.toNat 4) vl0)).items.all (memP h i) = false then false
    else (decide ((objS h (o.items.getD (Int.toNat 4) vl0)).kind = 1) && decide ((0 : Int) < (objS h (o.items.getD (Int.toNat 4) vl0)).items.length)) && decide ((0 : Int) < (objS h (o.items.getD (Int.toNat 0) vl0)).items.length))
  else
    (if wantB o want4 = true then false
    else if (midV o.items).all (cauP h) = false then false
    else if (!decide ((objS h (o.items.getD (Int.toNat 0) vl0)).kind = 1) || !decide ((objS h (o.items.getD (Int.toNat 3) vl0)).kind = 1)) = true then false
    else if (objS h (o.items.getD (Int.toNat 3) vl0)).items.all (mkP h) = false then false
    else true)
end Go.Proofs.YtnkjenaanjnihaaGreatDoor


/- Walks by the evaluator: the fifth group: what an object refers to. -/
namespace Go.Proofs.YtnkjenaanjnihaaGreatDoor
open Go.RowKit
variable {md me : Bool}
def openS (n : Int) : Bool := decide (n = 0) || decide (28 ≤ n)
def celP (h : List Ob) (r : Int) : Bool := decide ((obAt h r).kind = 6)
def basP (h : List Ob) (i r : Int) : Bool := !((decide (i ≤ r) || !decide ((obAt h r).kind = 9)) || !openS r)
abbrev itm (o : Ob) (k : Int) : Vl := o.items.getD k.toNat vl0
def supT (h : List Ob) (o : Ob) (k : Int) : Bool := (decide ((objS h (itm o 0)).kind = 9) && isObj h k) && hasB (obAt h k).order (itm o 0).r
def linksS (h : List Ob) (o : Ob) (i : Int) : Bool :=
  if o.kind = 5 then rngS o
  else if o.kind = 7 then (if o.refs.all (celP h) = true then decide ((obAt h o.cls).kind = 11) else false)
  else if o.kind = 8 then callS h (itm o 0)
  else if o.kind = 14 then callS h (itm o 0)
  else if o.kind = 9 then (if o.refs.all (basP h i) = true then (decide (1 ≤ (o.refs.length : Int)) && decide ((o.refs.length : Int) ≤ 8)) else false)
  else if o.kind = 10 then (decide ((obAt h o.cls).kind = 9) && openS o.cls) && (!hasB (obAt h o.cls).order 28 || excOkS h o i)
  else if o.kind = 15 then (if (objS h (itm o 1)).kind = 10 then supT h o (objS h (itm o 1)).cls else if (objS h (itm o 1)).kind = 9 then supT h o (itm o 1).r else false)
  else if o.kind = 16 then (if (objS h (itm o 0)).kind = 3 then (decide ((itm o 1).k = 2) && !(itm o 1).nn) else if (objS h (itm o 0)).kind = 4 then (decide ((itm o 1).k = 2) && !(itm o 1).nn)
    else if (objS h (itm o 0)).kind = 0 then ((decide ((itm o 0).k = 4) || decide ((itm o 0).k = 5)) && decide ((itm o 1).k = 0))
    else (((decide ((objS h (itm o 0)).kind = 1) || decide ((objS h (itm o 0)).kind = 2)) || decide ((objS h (itm o 0)).kind = 5)) && decide ((itm o 1).k = 0)))
  else if o.kind = 18 then (if 0 < o.state then (decide ((obAt h (o.state - 1)).kind = 10) && decide (49 ≤ (obAt h (o.state - 1)).cls)) else true)
  else if o.kind = 19 then decide ((objS h (itm o 0)).kind = 17)
  else if o.kind = 20 then (decide ((itm o 0).k = 2) && !(itm o 0).nn)
  else true
end Go.Proofs.YtnkjenaanjnihaaGreatDoor


/- Walks by the evaluator: Begin. -/
namespace Go.Proofs.YtnkjenaanjnihaaGreatDoor
open Go.RowKit
variable {md me : Bool}
def fldsL : List ByteArray := [⟨#[111, 98, 106, 101, 99, 116]⟩, ⟨#[99, 108, 97, 115, 115, 58, 111, 98, 106, 101, 99, 116]⟩, ⟨#[110, 105, 108, 95, 116, 121, 112, 101, 58, 111, 98, 106, 101, 99, 116]⟩, ⟨#[98, 111, 111, 108, 58, 111, 98, 106, 101, 99, 116]⟩, ⟨#[105, 110, 116, 58, 111, 98, 106, 101, 99, 116]⟩, ⟨#[114, 97, 116, 105, 111, 58, 111, 98, 106, 101, 99, 116]⟩, ⟨#[116, 101, 120, 116, 58, 111, 98, 106, 101, 99, 116]⟩, ⟨#[98, 121, 116, 101, 115, 58, 111, 98, 106, 101, 99, 116]⟩, ⟨#[116, 117, 112, 108, 101, 58, 111, 98, 106, 101, 99, 116]⟩, ⟨#[108, 105, 115, 116, 58, 111, 98, 106, 101, 99, 116]⟩, ⟨#[100, 105, 99, 116, 58, 111, 98, 106, 101, 99, 116]⟩, ⟨#[115, 101, 116, 58, 111, 98, 106, 101, 99, 116]⟩, ⟨#[114, 97, 110, 103, 101, 58, 111, 98, 106, 101, 99, 116]⟩, ⟨#[99, 101, 108, 108, 58, 111, 98, 106, 101, 99, 116]⟩, ⟨#[102, 117, 110, 99, 116, 105, 111, 110, 58, 111, 98, 106, 101, 99, 116]⟩, ⟨#[98, 117, 105, 108, 116, 105, 110, 58, 111, 98, 106, 101, 99, 116]⟩, ⟨#[109, 101, 116, 104, 111, 100, 58, 111, 98, 106, 101, 99, 116]⟩, ⟨#[109, 111, 100, 117, 108, 101, 58, 111, 98, 106, 101, 99, 116]⟩, ⟨#[112, 114, 111, 112, 101, 114, 116, 121, 58, 111, 98, 106, 101, 99, 116]⟩, ⟨#[115, 116, 97, 116, 105, 99, 58, 111, 98, 106, 101, 99, 116]⟩, ⟨#[99, 108, 97, 115, 115, 95, 109, 101, 116, 104, 111, 100, 58, 111, 98, 106, 101, 99, 116]⟩, ⟨#[115, 117, 112, 101, 114, 95, 116, 121, 112, 101, 58, 111, 98, 106, 101, 99, 116]⟩, ⟨#[105, 116, 101, 114, 97, 116, 111, 114, 58, 111, 98, 106, 101, 99, 116]⟩, ⟨#[103, 101, 110, 101, 114, 97, 116, 111, 114, 58, 111, 98, 106, 101, 99, 116]⟩, ⟨#[119, 101, 97, 107, 58, 111, 98, 106, 101, 99, 116]⟩, ⟨#[116, 97, 115, 107, 58, 111, 98, 106, 101, 99, 116]⟩, ⟨#[116, 105, 109, 101, 114, 58, 111, 98, 106, 101, 99, 116]⟩, ⟨#[112, 97, 115, 115, 95, 116, 121, 112, 101, 58, 111, 98, 106, 101, 99, 116]⟩, ⟨#[82, 97, 105, 115, 101, 100, 58, 111, 98, 106, 101, 99, 116]⟩, ⟨#[69, 120, 105, 116, 58, 82, 97, 105, 115, 101, 100]⟩, ⟨#[67, 97, 110, 99, 101, 108, 58, 82, 97, 105, 115, 101, 100]⟩, ⟨#[69, 114, 114, 111, 114, 58, 82, 97, 105, 115, 101, 100]⟩, ⟨#[84, 121, 112, 101, 69, 114, 114, 111, 114, 58, 69, 114, 114, 111, 114]⟩, ⟨#[86, 97, 108, 117, 101, 69, 114, 114, 111, 114, 58, 69, 114, 114, 111, 114]⟩, ⟨#[78, 97, 109, 101, 69, 114, 114, 111, 114, 58, 69, 114, 114, 111, 114]⟩, ⟨#[85, 110, 98, 111, 117, 110, 100, 69, 114, 114, 111, 114, 58, 78, 97, 109, 101, 69, 114, 114, 111, 114]⟩, ⟨#[65, 116, 116, 114, 105, 98, 117, 116, 101, 69, 114, 114, 111, 114, 58, 69, 114, 114, 111, 114]⟩, ⟨#[76, 111, 111, 107, 117, 112, 69, 114, 114, 111, 114, 58, 69, 114, 114, 111, 114]⟩, ⟨#[73, 110, 100, 101, 120, 69, 114, 114, 111, 114, 58, 76, 111, 111, 107, 117, 112, 69, 114, 114, 111, 114]⟩, ⟨#[75, 101, 121, 69, 114, 114, 111, 114, 58, 76, 111, 111, 107, 117, 112, 69, 114, 114, 111, 114]⟩, ⟨#[65, 114, 105, 116, 104, 109, 101, 116, 105, 99, 69, 114, 114, 111, 114, 58, 69, 114, 114, 111, 114]⟩, ⟨#[68, 105, 118, 105, 115, 105, 111, 110, 69, 114, 114, 111, 114, 58, 65, 114, 105, 116, 104, 109, 101, 116, 105, 99, 69, 114, 114, 111, 114]⟩, ⟨#[76, 105, 109, 105, 116, 69, 114, 114, 111, 114, 58, 69, 114, 114, 111, 114]⟩, ⟨#[82, 101, 99, 117, 114, 115, 105, 111, 110, 69, 114, 114, 111, 114, 58, 76, 105, 109, 105, 116, 69, 114, 114, 111, 114]⟩, ⟨#[65, 115, 115, 101, 114, 116, 105, 111, 110, 69, 114, 114, 111, 114, 58, 69, 114, 114, 111, 114]⟩, ⟨#[73, 109, 112, 111, 114, 116, 69, 114, 114, 111, 114, 58, 69, 114, 114, 111, 114]⟩, ⟨#[83, 116, 111, 112, 69, 114, 114, 111, 114, 58, 69, 114, 114, 111, 114]⟩, ⟨#[83, 116, 97, 116, 101, 69, 114, 114, 111, 114, 58, 69, 114, 114, 111, 114]⟩, ⟨#[71, 114, 111, 117, 112, 69, 114, 114, 111, 114, 58, 69, 114, 114, 111, 114]⟩]
def nmL : List ByteArray := [⟨#[111, 98, 106, 101, 99, 116]⟩, ⟨#[99, 108, 97, 115, 115]⟩, ⟨#[110, 105, 108, 95, 116, 121, 112, 101]⟩, ⟨#[98, 111, 111, 108]⟩, ⟨#[105, 110, 116]⟩, ⟨#[114, 97, 116, 105, 111]⟩, ⟨#[116, 101, 120, 116]⟩, ⟨#[98, 121, 116, 101, 115]⟩, ⟨#[116, 117, 112, 108, 101]⟩, ⟨#[108, 105, 115, 116]⟩, ⟨#[100, 105, 99, 116]⟩, ⟨#[115, 101, 116]⟩, ⟨#[114, 97, 110, 103, 101]⟩, ⟨#[99, 101, 108, 108]⟩, ⟨#[102, 117, 110, 99, 116, 105, 111, 110]⟩, ⟨#[98, 117, 105, 108, 116, 105, 110]⟩, ⟨#[109, 101, 116, 104, 111, 100]⟩, ⟨#[109, 111, 100, 117, 108, 101]⟩, ⟨#[112, 114, 111, 112, 101, 114, 116, 121]⟩, ⟨#[115, 116, 97, 116, 105, 99]⟩, ⟨#[99, 108, 97, 115, 115, 95, 109, 101, 116, 104, 111, 100]⟩, ⟨#[115, 117, 112, 101, 114, 95, 116, 121, 112, 101]⟩, ⟨#[105, 116, 101, 114, 97, 116, 111, 114]⟩, ⟨#[103, 101, 110, 101, 114, 97, 116, 111, 114]⟩, ⟨#[119, 101, 97, 107]⟩, ⟨#[116, 97, 115, 107]⟩, ⟨#[116, 105, 109, 101, 114]⟩, ⟨#[112, 97, 115, 115, 95, 116, 121, 112, 101]⟩, ⟨#[82, 97, 105, 115, 101, 100]⟩, ⟨#[69, 120, 105, 116]⟩, ⟨#[67, 97, 110, 99, 101, 108]⟩, ⟨#[69, 114, 114, 111, 114]⟩, ⟨#[84, 121, 112, 101, 69, 114, 114, 111, 114]⟩, ⟨#[86, 97, 108, 117, 101, 69, 114, 114, 111, 114]⟩, ⟨#[78, 97, 109, 101, 69, 114, 114, 111, 114]⟩, ⟨#[85, 110, 98, 111, 117, 110, 100, 69, 114, 114, 111, 114]⟩, ⟨#[65, 116, 116, 114, 105, 98, 117, 116, 101, 69, 114, 114, 111, 114]⟩, ⟨#[76, 111, 111, 107, 117, 112, 69, 114, 114, 111, 114]⟩, ⟨#[73, 110, 100, 101, 120, 69, 114, 114, 111, 114]⟩, ⟨#[75, 101, 121, 69, 114, 114, 111, 114]⟩, ⟨#[65, 114, 105, 116, 104, 109, 101, 116, 105, 99, 69, 114, 114, 111, 114]⟩, ⟨#[68, 105, 118, 105, 115, 105, 111, 110, 69, 114, 114, 111, 114]⟩, ⟨#[76, 105, 109, 105, 116, 69, 114, 114, 111, 114]⟩, ⟨#[82, 101, 99, 117, 114, 115, 105, 111, 110, 69, 114, 114, 111, 114]⟩, ⟨#[65, 115, 115, 101, 114, 116, 105, 111, 110, 69, 114, 114, 111, 114]⟩, ⟨#[73, 109, 112, 111, 114, 116, 69, 114, 114, 111, 114]⟩, ⟨#[83, 116, 111, 112, 69, 114, 114, 111, 114]⟩, ⟨#[83, 116, 97, 116, 101, 69, 114, 114, 111, 114]⟩, ⟨#[71, 114, 111, 117, 112, 69, 114, 114, 111, 114]⟩]
def bsL : List ByteArray := [⟨#[]⟩, ⟨#[111, 98, 106, 101, 99, 116]⟩, ⟨#[111, 98, 106, 101, 99, 116]⟩, ⟨#[111, 98, 106, 101, 99, 116]⟩, ⟨#[111, 98, 106, 101, 99, 116]⟩, ⟨#[111, 98, 106, 101, 99, 116]⟩, ⟨#[111, 98, 106, 101, 99, 116]⟩, ⟨#[111, 98, 106, 101, 99, 116]⟩, ⟨#[111, 98, 106, 101, 99, 116]⟩, ⟨#[111, 98, 106, 101, 99, 116]⟩, ⟨#[111, 98, 106, 101, 99, 116]⟩, ⟨#[111, 98, 106, 101, 99, 116]⟩, ⟨#[111, 98, 106, 101, 99, 116]⟩, ⟨#[111, 98, 106, 101, 99, 116]⟩, ⟨#[111, 98, 106, 101, 99, 116]⟩, ⟨#[111, 98, 106, 101, 99, 116]⟩, ⟨#[111, 98, 106, 101, 99, 116]⟩, ⟨#[111, 98, 106, 101, 99, 116]⟩, ⟨#[111, 98, 106, 101, 99, 116]⟩, ⟨#[111, 98, 106, 101, 99, 116]⟩, ⟨#[111, 98, 106, 101, 99, 116]⟩, ⟨#[111, 98, 106, 101, 99, 116]⟩, ⟨#[111, 98, 106, 101, 99, 116]⟩, ⟨#[111, 98, 106, 101, 99, 116]⟩, ⟨#[111, 98, 106, 101, 99, 116]⟩, ⟨#[111, 98, 106, 101, 99, 116]⟩, ⟨#[111, 98, 106, 101, 99, 116]⟩, ⟨#[111, 98, 106, 101, 99, 116]⟩, ⟨#[111, 98, 106, 101, 99, 116]⟩, ⟨#[82, 97, 105, 115, 101, 100]⟩, ⟨#[82, 97, 105, 115, 101, 100]⟩, ⟨#[82, 97, 105, 115, 101, 100]⟩, ⟨#[69, 114, 114, 111, 114]⟩, ⟨#[69, 114, 114, 111, 114]⟩, ⟨#[69, 114, 114, 111, 114]⟩, ⟨#[78, 97, 109, 101, 69, 114, 114, 111, 114]⟩, ⟨#[69, 114, 114, 111, 114]⟩, ⟨#[69, 114, 114, 111, 114]⟩, ⟨#[76, 111, 111, 107, 117, 112, 69, 114, 114, 111, 114]⟩, ⟨#[76, 111, 111, 107, 117, 112, 69, 114, 114, 111, 114]⟩, ⟨#[69, 114, 114, 111, 114]⟩, ⟨#[65, 114, 105, 116, 104, 109, 101, 116, 105, 99, 69, 114, 114, 111, 114]⟩, ⟨#[69, 114, 114, 111, 114]⟩, ⟨#[76, 105, 109, 105, 116, 69, 114, 114, 111, 114]⟩, ⟨#[69, 114, 114, 111, 114]⟩, ⟨#[69, 114, 114, 111, 114]⟩, ⟨#[69, 114, 114, 111, 114]⟩, ⟨#[69, 114, 114, 111, 114]⟩, ⟨#[69, 114, 114, 111, 114]⟩]
def dvL : List Bool := [false, true, true, true, true, true, true, true, true, true, true, true, true, true, true, true, true, true, true, true, true, true, true, true, true, true, true, true, true, true, true, true, true, true, true, true, true, true, true, true, true, true, true, true, true, true, true, true, true]
def ixL : List Int := [0, 0, 0, 0, 0, 0, 0, 0, 0, 0, 0, 0, 0, 0, 0, 0, 0, 0, 0, 0, 0, 0, 0, 0, 0, 0, 0, 0, 0, 28, 28, 28, 31, 31, 31, 34, 31, 31, 37, 37, 31, 40, 31, 42, 31, 31, 31, 31, 31]
def odL : List (List Int) := [[0], [1, 0], [2, 0], [3, 0], [4, 0], [5, 0], [6, 0], [7, 0], [8, 0], [9, 0], [10, 0], [11, 0], [12, 0], [13, 0], [14, 0], [15, 0], [16, 0], [17, 0], [18, 0], [19, 0], [20, 0], [21, 0], [22, 0], [23, 0], [24, 0], [25, 0], [26, 0], [27, 0], [28, 0], [29, 28, 0], [30, 28, 0], [31, 28, 0], [32, 31, 28, 0], [33, 31, 28, 0], [34, 31, 28, 0], [35, 34, 31, 28, 0], [36, 31, 28, 0], [37, 31, 28, 0], [38, 37, 31, 28, 0], [39, 37, 31, 28, 0], [40, 31, 28, 0], [41, 40, 31, 28, 0], [42, 31, 28, 0], [43, 42, 31, 28, 0], [44, 31, 28, 0], [45, 31, 28, 0], [46, 31, 28, 0], [47, 31, 28, 0], [48, 31, 28, 0]]
def nmB (k : Nat) : ByteArray := nmL.getD k ByteArray.empty
def bsB (k : Nat) : ByteArray := bsL.getD k ByteArray.empty
def dvB (k : Nat) : Bool := dvL.getD k false
def ixB (k : Nat) : Int := ixL.getD k 0
def odB (k : Nat) : List Int := odL.getD k []
def nmS (k : Nat) : List ByteArray := (List.range k).map nmB
def bgO (k : Nat) : Ob := ⟨9, nmB k, 0, if dvB k then [ixB k] else [], odB k, [], [], [], 0, 0⟩
def bgS (k : Nat) : List Ob := (List.range k).map bgO
theorem bgS_len (k : Nat) : (bgS k).length = k := by simp [bgS]
theorem bgS_succ (k : Nat) : (bgS (k + 1)).map obD = (bgS k).map obD ++ [obD (bgO k)] := by rw [bgS, List.range_succ, List.map_append, List.map_append]; rfl
theorem nmS_succ (k : Nat) : (nmS (k + 1)).map sD = (nmS k).map sD ++ [sD (nmB k)] := by rw [nmS, List.range_succ, List.map_append, List.map_append]; rfl
theorem fldsL_len : fldsL.length = 49 := by decide +kernel
def fieldsS (p : ByteArray) : List ByteArray := (Lib.fields p.data.toList).map fun l => ⟨l.toArray⟩
theorem Fields_ok (p : ByteArray) {l : List ByteArray} (h : fieldsS p = l) (hp : p.size < 4294967281) (hl : l.length ≤ 9223372036854775807) (ha : p.data.toList.all (fun b => decide (b.toNat < 128)) = true) : Fn Tryz.prog 35 [.v (.string p)] (ssD l) := by
  subst h
  refine fn_rowS (t := 9) ⟨_, Tryz.func35, rfl, rfl⟩ hl fun w s vs hg hv => ?_
  rw [allV_one hv]
  obtain ⟨G, g1, g2, _⟩ := hg
  refine (Any.strings_Fields_core Tryz.laysFields (by kernel_rfl) p w hp (fun j b hb => of_decide_eq_true (List.all_eq_true.1 ha b (List.mem_of_getElem? hb))) fun c hc => (g2 _ _ _ (g1.space c hc)).1).mono ?_
  rintro e w' ⟨rfl, rfl⟩
  refine ⟨?_, ?_⟩
  · simp only [fieldsS, List.length_map]
  · simp only [fieldsS, List.map_map]; rfl
theorem Cut_ok (p q : ByteArray) (hp : p.size < 4294967281) {a b : ByteArray} {c : Bool} (h : Lib.cut p.data.toList q.data.toList = (a.data.toList, b.data.toList, c)) : Fn Tryz.prog 36 [.v (.string p), .v (.string q)] (.tup [.v (.string a), .v (.string b), .v (.bool c)]) := by
  refine ⟨⟨_, Tryz.func36, rfl, rfl⟩, fun w s vs hlt hg hv => ?_⟩
  rw [allV_two hv]
  obtain ⟨G, g1, g2, _⟩ := hg
  obtain ⟨m, hm⟩ := g1.maxLen
  refine (Any.strings_Cut Tryz.laysCut p q m w hp (g2 _ _ _ hm).1).mono ?_
  rintro e w' ⟨rfl, n, rfl⟩
  rw [h]
  exact ⟨s, _, rfl, ⟨_, rfl, rfl, rfl, rfl, trivial⟩, PStp.ofBelow hlt (below_drewN (Below.refl _ _) n)⟩
def bgK (k : Nat) : Bool := decide (Lib.cut (fldsL.getD k ByteArray.empty).data.toList [58] = ((nmB k).data.toList, (bsB k).data.toList, dvB k)) && decide ((fldsL.getD k ByteArray.empty).size ≤ 100)
  && (if dvB k then decide (ixI (nmS k) (bsB k) = ixB k) && decide (0 ≤ ixB k) && decide (ixB k < (k : Int)) && decide (odB k = (k : Int) :: odB (ixB k).toNat) else decide (odB k = [(k : Int)]))
theorem bgK_all : (List.range 49).all bgK = true := by decide +kernel
theorem bgK_at {k : Nat} (h : k < 49) : bgK k = true := List.all_eq_true.1 bgK_all k (List.mem_range.2 h)
theorem cutK {k : Nat} (h : k < 49) : Lib.cut (fldsL.getD k ByteArray.empty).data.toList [58] = ((nmB k).data.toList, (bsB k).data.toList, dvB k) ∧ (fldsL.getD k ByteArray.empty).size ≤ 100 := by
  have := bgK_at h
  simp only [bgK, Bool.and_eq_true, decide_eq_true_eq] at this
  exact this.1
theorem ixK {k : Nat} (h : k < 49) (hd : dvB k = true) : ixI (nmS k) (bsB k) = ixB k ∧ 0 ≤ ixB k ∧ ixB k < (k : Int) ∧ odB k = (k : Int) :: odB (ixB k).toNat := by
  have := bgK_at h
  simp only [bgK, Bool.and_eq_true, decide_eq_true_eq, if_pos hd] at this
  exact ⟨this.2.1.1.1, this.2.1.1.2, this.2.1.2, this.2.2⟩
theorem odK {k : Nat} (h : k < 49) (hd : dvB k = false) : odB k = [(k : Int)] := by
  have := bgK_at h
  rw [bgK, if_neg (by rw [hd]; decide)] at this
  simp only [Bool.and_eq_true, decide_eq_true_eq] at this
  exact this.2
theorem rowK {k j : Nat} (h : j < k) : ((bgS k).map obD).getD j [] = obD (bgO j) := by
  have e : ((bgS k).map obD)[j]? = some (obD (bgO j)) := by rw [bgS, List.map_map, List.getElem?_map, List.getElem?_range h]; rfl
  rw [List.getD_eq_getElem?_getD, e]; rfl
theorem Cut_at (k : Nat) (h : k < 49) : Fn Tryz.prog 36 [.v (.string (fldsL.getD k ByteArray.empty)), .v (.string ⟨#[58]⟩)] (.tup [.v (.string (nmB k)), .v (.string (bsB k)), .v (.bool (dvB k))]) :=
  Cut_ok _ _ (by have := (cutK h).2; omega) (cutK h).1
theorem odL_len (k : Nat) : (odB k).length ≤ 10 := by
  by_cases h : k < 49
  · exact of_decide_eq_true (List.all_eq_true.1 (show (List.range 49).all (fun k => decide ((odB k).length ≤ 10)) = true by decide +kernel) k (List.mem_range.2 h))
  · have : odB k = [] := by rw [odB, List.getD_eq_getElem?_getD, List.getElem?_eq_none (by show 49 ≤ k; omega)]; rfl
    rw [this]; decide
theorem nmS_len (k : Nat) : (nmS k).length = k := by simp [nmS]
theorem bgRow0 {k : Nat} (h : k < 49) (hd : dvB k = false) {K : Nat} : SubPs [.v (.int .i64 9), .v (.string (nmB k)), .v (.int .i64 0), .v (.slice none 0 0), .own K 1 [[.v (.int .i64 k)]], .v (.slice none 0 0), .v (.slice none 0 0), .v (.slice none 0 0), .v (.int .i64 0), .v (.int .i64 0)] (obD (bgO k)) :=
  ⟨SubP.refl _, SubP.refl _, SubP.refl _, SubP.nilSl (by show (if dvB k then _ else _) = _; rw [if_neg (by rw [hd]; decide)]), SubP.ownSl (by show _ = (odB k).map iD; rw [odK h hd]; rfl), SubP.nilSl rfl, SubP.nilSl rfl, SubP.nilSl rfl, SubP.refl _, SubP.refl _, trivial⟩
theorem bgRow1 {k : Nat} (h : k < 49) (hd : dvB k = true) {K : Nat} {rows : List (List D)} (hr : rows = [[.v (.int .i64 k)]] ++ (odB (ixB k).toNat).map iD) : SubPs [.v (.int .i64 9), .v (.string (nmB k)), .v (.int .i64 0), .slr false 1 [[.v (.int .i64 (ixI (nmS k) (bsB k)))]], .own K 1 rows, .v (.slice none 0 0), .v (.slice none 0 0), .v (.slice none 0 0), .v (.int .i64 0), .v (.int .i64 0)] (obD (bgO k)) :=
  ⟨SubP.refl _, SubP.refl _, SubP.refl _, SubP.slrSl (by show _ = (if dvB k then [ixB k] else []).map iD; rw [if_pos hd, (ixK h hd).1]; rfl), SubP.ownSl (by show _ = (odB k).map iD; rw [(ixK h hd).2.2.2, hr]; rfl), SubP.nilSl rfl, SubP.nilSl rfl, SubP.nilSl rfl, SubP.refl _, SubP.refl _, trivial⟩
set_option maxHeartbeats 1000000 in
theorem Begin_ok  : Fn Tryz.prog 20 [] (hpD false (bgS 49)) := by
  refine fn_ev tabT Tryz.func20 rfl rfl rfl rfl rfl rfl ?_
  intro w0 s0 mx
  refine ev_R tabT [] 100 ?_
  refine ev_R tabT [] 200 ?_
  refine ev_R tabT [] 300 ?_
  refine ev_nilCell 100 0 85 10 rfl rfl ?_
  refine ev_nilRow 2 9 1 rfl ?_
  refine ev_seq ?_
  refine ev_seq (ev_region tabT [] 400 rfl ?_)
  refine sat_go ?_
  refine sat_fn _ (Fields_ok _ (l := fldsL) (by decide +kernel) (by decide +kernel) (by decide +kernel) (by decide +kernel)) rfl ?_
  refine sat_go ?_
  refine sat_done (exS_normal (ev_block ?_))
  refine ev_loopK (ι := Up 49 (fun _ => true)) [0, 1, 10, 11] [0] 450 (fun x => [(12, .v (.int .i64 x.k)), (2, .own 301 1 ((nmS x.k).map sD))]) (fun x => [(301, .row 9 1 ((nmS x.k).map sD).length), (100, .box 55 [.own 300 10 ((bgS x.k).map obD)]), (300, .row 85 10 ((bgS x.k).map obD).length)]) (fun x => 49 - x.k) ⟨0, Nat.zero_le _, fun j hj => by omega⟩ ?_
  refine ⟨⟨le_t, le_o, rfl, rfl⟩, fun x => ?_⟩
  have hk := x.le
  refine ev_R tabT [] 500 ?_
  refine ev_seq (ev_cond rfl (fun c4 => ?_) (fun c4 => ?_))
  · replace c4 := of_decide_eq_true c4
    have hk9 : x.k < 49 := by have := fldsL_len; omega
    refine ev_skip (exS_normal (ev_seq (ev_block (ev_R tabT [] 600 ?_))))
    refine ev_seq (ev_region tabT [] 700 rfl ?_)
    refine sat_go ?_
    refine sat_fn _ (Cut_at x.k hk9) rfl ?_
    refine sat_go ?_
    refine sat_done (exS_normal (ev_R tabT [25] 800 ?_))
    refine ev_seq (ev_R tabT [] 900 ?_)
    refine ev_if (fun c8 => ?_) (fun c8 => ?_)
    ·
      refine ev_seq (ev_region tabT [] 1000 rfl ?_)
      refine sat_go ?_
      refine sat_fn _ ((IndexS_ok (nmS x.k) (bsB x.k)).args ⟨SubP.ownSl rfl, SubP.refl _, trivial⟩) rfl ?_
      refine sat_go ?_
      refine sat_done (exS_normal ?_)
      refine ev_drawn tabT [38] [[], [0], [], [2], [], [4], [], [4, 5, 6], [4, 5, 6, 7], [4, 5, 6, 7, 8], [2, 3, 4, 5, 6, 7, 8, 9], [0, 1, 2, 3], [0, 1, 2, 3, 4, 5, 6, 7, 8, 9, 10, 11], [0, 1, 2, 3, 4, 5, 6, 7, 8, 9, 10, 11, 12], [0, 1, 2, 3, 4, 5, 6, 7, 8, 9, 10, 11, 12, 13]] 1100 mixT (by kernel_rfl) rfl ?_
      refine sat_go ?_
      refine sat_pick (obD (bgO (ixB x.k).toNat)) ⟨?_, ?_, ?_⟩ ?_
      · show 0 ≤ ixI (nmS x.k) (bsB x.k)
        rw [(ixK hk9 c8).1]; exact (ixK hk9 c8).2.1
      · show (ixI (nmS x.k) (bsB x.k)).toNat < ((bgS x.k).map obD).length
        rw [(ixK hk9 c8).1, List.length_map, bgS_len]; have := (ixK hk9 c8).2; omega
      · show ((bgS x.k).map obD).getD (ixI (nmS x.k) (bsB x.k)).toNat [] = _
        rw [(ixK hk9 c8).1]; exact rowK (by have := (ixK hk9 c8).2; omega)
      repeat (first | refine sat_same ?_ | refine sat_imp (by exact fun hh => hh) ?_ | refine sat_need (by first | rfl | (have hod := odL_len (ixB x.k).toNat; simp only [List.length_map, List.length_cons, List.length_nil, bgO]; omega)) ?_)
      refine sat_done (exS_normal ?_)
      refine ev_seq (ev_region tabT [] 1200 rfl ?_)
      repeat (first | refine sat_same ?_ | refine sat_impA ?_ | refine sat_need (by first | rfl | (have h1 := nmS_len x.k; have h2 := bgS_len x.k; simp only [List.length_map, List.length_cons, List.length_nil]; omega)) ?_)
      refine sat_done (exS_normal ?_)
      refine ev_region tabT [] 1300 rfl ?_
      repeat (first | refine sat_same ?_ | refine sat_impA ?_ | refine sat_need (by first | rfl | (have h1 := nmS_len x.k; have h2 := bgS_len x.k; simp only [List.length_map, List.length_cons, List.length_nil]; omega)) ?_)
      refine sat_done (exBl_normal (exS_normal (ev_Q tabT [] 1400 ?_)))
      exact exL_normal (x.next hk9 rfl) ⟨⟨Sub.refl _, Sub.own (by show _ = (nmS (x.k + 1)).map sD; rw [nmS_succ]; rfl), by repeat (first | exact trivial | exact Sub.refl _ | refine ⟨?_, ?_⟩)⟩, ⟨⟨rfl, rfl, by show _ = ((nmS (x.k + 1)).map sD).length; rw [nmS_succ]; rfl⟩, ⟨rfl, Sub.ownRows (by show RowsP _ ((bgS (x.k + 1)).map obD); rw [bgS_succ]; exact (RowsP.refl _).append ⟨bgRow1 hk9 c8 rfl, trivial⟩), rfl, trivial⟩, ⟨rfl, rfl, by show _ = ((bgS (x.k + 1)).map obD).length; rw [bgS_succ, List.length_append, List.length_append]; rfl⟩, by repeat (first | exact trivial | exact SubO.same rfl | refine ⟨?_, ?_⟩)⟩, rfl, rfl⟩ (by show 49 - (x.k + 1) < 49 - x.k; omega)
    ·
      refine ev_skip (exS_normal ?_)
      refine ev_seq (ev_region tabT [] 1200 rfl ?_)
      repeat (first | refine sat_same ?_ | refine sat_impA ?_ | refine sat_need (by first | rfl | (have h1 := nmS_len x.k; have h2 := bgS_len x.k; simp only [List.length_map, List.length_cons, List.length_nil]; omega)) ?_)
      refine sat_done (exS_normal ?_)
      refine ev_region tabT [] 1300 rfl ?_
      repeat (first | refine sat_same ?_ | refine sat_impA ?_ | refine sat_need (by first | rfl | (have h1 := nmS_len x.k; have h2 := bgS_len x.k; simp only [List.length_map, List.length_cons, List.length_nil]; omega)) ?_)
      refine sat_done (exBl_normal (exS_normal (ev_Q tabT [] 1400 ?_)))
      exact exL_normal (x.next hk9 rfl) ⟨⟨Sub.refl _, Sub.own (by show _ = (nmS (x.k + 1)).map sD; rw [nmS_succ]; rfl), by repeat (first | exact trivial | exact Sub.refl _ | refine ⟨?_, ?_⟩)⟩, ⟨⟨rfl, rfl, by show _ = ((nmS (x.k + 1)).map sD).length; rw [nmS_succ]; rfl⟩, ⟨rfl, Sub.ownRows (by show RowsP _ ((bgS (x.k + 1)).map obD); rw [bgS_succ]; exact (RowsP.refl _).append ⟨bgRow0 hk9 c8, trivial⟩), rfl, trivial⟩, ⟨rfl, rfl, by show _ = ((bgS (x.k + 1)).map obD).length; rw [bgS_succ, List.length_append, List.length_append]; rfl⟩, by repeat (first | exact trivial | exact SubO.same rfl | refine ⟨?_, ?_⟩)⟩, rfl, rfl⟩ (by show 49 - (x.k + 1) < 49 - x.k; omega)
  · replace c4 := of_decide_eq_false c4
    have hxk : x.k = 49 := by have := fldsL_len; omega
    refine ev_exit (exS_exit (exL_exit (exBl_same (exS_normal (ev_R tabT [] 1500 ?_)))))
    refine ev_ret ?_
    exact FinV.ret rfl (SubP.agg ⟨SubP.ownSl (by rw [hxk]), trivial⟩)
end Go.Proofs.YtnkjenaanjnihaaGreatDoor


/- Walks by the evaluator: Problem: what a heap must be. -/
namespace Go.Proofs.YtnkjenaanjnihaaGreatDoor
open Go.RowKit
variable {md me : Bool}
def fstC : List Int → Int
  | [] => 0
  | c :: l => if c = 0 then fstC l else c
def fourS (h : List Ob) (o : Ob) : List Int := [shapeS o, sizesS o, namesS o, valuesS h o]
noncomputable def codeS (h : List Ob) (i : Nat) : Int :=
  if (i : Int) < 49 then (if obAt h i = bgO i then 0 else 19)
  else if (obAt h i).kind < 0 ∨ 21 ≤ (obAt h i).kind then 5
  else if fstC (fourS h (obAt h i)) = 0 then
    (if linksS h (obAt h i) i = true then (if keyS h (obAt h i) = 0 then (if orderOkS h (obAt h i) i = true then 0 else 19) else keyS h (obAt h i)) else 13)
  else fstC (fourS h (obAt h i))
theorem bg_at {k : Nat} (hk : (k : Int) < 49) : (bgS 49).getD k ob0 = bgO k := by
  have e : (bgS 49)[k]? = some (bgO k) := by rw [bgS, List.getElem?_map, List.getElem?_range (by omega)]; rfl
  rw [List.getD_eq_getElem?_getD, e]; rfl
end Go.Proofs.YtnkjenaanjnihaaGreatDoor


/- Walks by the evaluator: Usable, and what a usable heap is. -/
namespace Go.Proofs.YtnkjenaanjnihaaGreatDoor
open Go.RowKit
variable {md me : Bool}
structure Uh (h : List Ob) : Prop where
  lo : 49 ≤ h.length
  hi : h.length ≤ 6000
  code : ∀ i, i < h.length → codeS h i = 0
end Go.Proofs.YtnkjenaanjnihaaGreatDoor


/- Walks by the evaluator: raising: Is, Matches, Caught, SameStep. -/
namespace Go.Proofs.YtnkjenaanjnihaaGreatDoor
open Go.RowKit
variable {md me : Bool}
structure St where
  k : Int
  v : Vl
  c : Int
  s : ByteArray
  w : Vl
  l : List Vl
def stD (s : St) : List D := .v (.int .i64 s.k) :: (vlD s.v ++ (.v (.int .i64 s.c) :: .v (.string s.s) :: (vlD s.w ++ [.sl false 7 s.l vlD vl0])))
def raS (c : Int) (m : ByteArray) : St := ⟨1, vl0, c, m, vl0, []⟩
def vlS (v : Vl) : St := ⟨0, v, 0, ByteArray.empty, vl0, []⟩
end Go.Proofs.YtnkjenaanjnihaaGreatDoor


/- Walks by the evaluator: Matches, Caught; the law. -/
namespace Go.Proofs.YtnkjenaanjnihaaGreatDoor
open Go.RowKit
variable {md me : Bool}
section
variable {h : List Ob} {v : Vl} {b : Bool} {l : List Vl} {k : Nat}
end
end Go.Proofs.YtnkjenaanjnihaaGreatDoor


/- Walks by the evaluator: heap.Start, SameHeap, Text, Ref, ClassOf. -/
namespace Go.Proofs.YtnkjenaanjnihaaGreatDoor
open Go.RowKit
variable {md me : Bool}
end Go.Proofs.YtnkjenaanjnihaaGreatDoor


/- Walks by the evaluator: the class of a value. -/
namespace Go.Proofs.YtnkjenaanjnihaaGreatDoor
open Go.RowKit
variable {md me : Bool}
def kcL : List Int := [2, 3, 4, 5, 6, 7, 0, 15, 27, 2]
def ocL : List Int := [0, 8, 9, 10, 11, 12, 13, 14, 16, 1, 0, 17, 18, 19, 20, 21, 22, 23, 24, 25, 26]
def ocS (o : Ob) : Int := if o.kind = 10 then o.cls else ocL.getD o.kind.toNat 0
def clA (h : List Ob) (v : Vl) : Int := if v.k = 6 then ocS (obAt h v.r) else kcL.getD v.k.toNat 0
structure Cf (h : List Ob) (v : Vl) : Prop where
  k : 0 ≤ v.k ∧ v.k < 9
  obj : v.k = 6 → isObj h v.r = true
  kind : v.k = 6 → 0 < (obAt h v.r).kind ∧ (obAt h v.r).kind < 21
  cls : v.k = 6 → (obAt h v.r).kind = 10 → inH h (obAt h v.r).cls
theorem ocS_in {h : List Ob} {o : Ob} (g : Uh h) (hk : 0 < o.kind ∧ o.kind < 21) (hc : o.kind = 10 → inH h o.cls) : inH h (ocS o) := by
  unfold ocS
  split
  · rename_i h1; exact hc h1
  · have h3 := List.all_eq_true.1 (show (List.range 21).all (fun n => decide (0 ≤ ocL.getD n 0 ∧ ocL.getD n 0 < 49)) = true by decide +kernel) o.kind.toNat (List.mem_range.2 (by omega))
    have h4 := of_decide_eq_true h3
    have := g.lo
    exact ⟨h4.1, by omega⟩
theorem clA_in {h : List Ob} {v : Vl} (g : Uh h) (c : Cf h v) : inH h (clA h v) := by
  unfold clA
  split
  · rename_i h1; exact ocS_in g (c.kind h1) (c.cls h1)
  · have h3 := List.all_eq_true.1 (show (List.range 9).all (fun n => decide (0 ≤ kcL.getD n 0 ∧ kcL.getD n 0 < 49)) = true by decide +kernel) v.k.toNat (List.mem_range.2 (by have := c.k; omega))
    have h4 := of_decide_eq_true h3
    have := g.lo
    exact ⟨h4.1, by omega⟩
theorem kindClasses_ok  : Fn Tryz.prog 59 [] (isD kcL) := by
  refine fn_ev tabT Tryz.func59 rfl rfl rfl rfl rfl rfl ?_
  intro w0 s0 mx
  refine ev_R tabT [] 100 ?_
  refine ev_R tabT [] 200 ?_
  refine ev_ret ?_
  exact FinV.ret rfl (SubP.slrSl rfl)
theorem objectClasses_ok  : Fn Tryz.prog 60 [] (isD ocL) := by
  refine fn_ev tabT Tryz.func60 rfl rfl rfl rfl rfl rfl ?_
  intro w0 s0 mx
  refine ev_R tabT [] 100 ?_
  refine ev_R tabT [] 200 ?_
  refine ev_ret ?_
  exact FinV.ret rfl (SubP.slrSl rfl)
theorem heapClassOf_ok (h : List Ob) (v : Vl) (c : Cf h v) : Fn Tryz.prog 40 [hpD md h, .agg (vlD v)] (.v (.int .i64 (clA h v))) := by
  refine fn_ev tabT Tryz.func40 rfl rfl rfl rfl rfl rfl ?_
  intro w0 s0 mx
  refine ev_R tabT [] 100 ?_
  refine ev_seq (ev_R tabT [] 200 ?_)
  refine ev_cond rfl (fun c1 => ?_) (fun c1 => ?_)
  · replace c1 : ¬ v.k = 6 := by have h1 := c1; simp only [Bool.not_eq_true', decide_eq_false_iff_not] at h1; exact h1
    refine ev_seq (ev_drawn tabT [] [[], [], [1], [0, 1, 2], [0, 1, 2, 3], [0, 1, 2, 3, 4]] 300 mixT (by kernel_rfl) rfl ?_)
    repeat (first | refine sat_same ?_ | refine sat_impA ?_ | refine sat_need (by exact ⟨c.k.1, by show v.k.toNat < 10; have := c.k; omega⟩) ?_)
    refine sat_fn _ (kindClasses_ok) rfl ?_
    repeat (first | refine sat_same ?_ | refine sat_impA ?_ | refine sat_need (by exact ⟨c.k.1, by show v.k.toNat < 10; have := c.k; omega⟩) ?_)
    refine sat_done (exS_normal (ev_ret (exS_ret ?_)))
    exact FinV.ret rfl (SubP.int (by rw [clA, if_neg c1]))
  · replace c1 : v.k = 6 := by have h1 := c1; simp only [Bool.not_eq_false', decide_eq_true_eq] at h1; exact h1
    refine ev_skip (exS_normal ?_)
    refine ev_seq (ev_region tabT [] 400 rfl ?_)
    repeat (first | refine sat_same ?_ | refine sat_impA ?_ | refine sat_need (by exact isObj_in (c.obj c1)) ?_)
    refine sat_done (exS_normal (ev_seq (ev_R tabT [] 500 ?_)))
    refine ev_cond rfl (fun c4 => ?_) (fun c4 => ?_)
    · first | replace c4 := of_decide_eq_true c4 | replace c4 := of_decide_eq_false c4
      refine ev_R tabT [] 600 ?_
      refine ev_ret (exS_ret ?_)
      exact FinV.ret rfl (SubP.int (by rw [clA, if_pos c1, ocS, if_pos c4]))
    · first | replace c4 := of_decide_eq_true c4 | replace c4 := of_decide_eq_false c4
      refine ev_skip (exS_normal ?_)
      refine ev_seq (ev_drawn tabT [] [[], [], [1], [0, 1, 2], [0, 1, 2, 3], [0, 1, 2, 3, 4]] 700 mixT (by kernel_rfl) rfl ?_)
      repeat (first | refine sat_same ?_ | refine sat_impA ?_ | refine sat_need (by exact ⟨Int.le_of_lt (c.kind c1).1, by show (obAt h v.r).kind.toNat < 21; have h1 : 0 < (obAt h v.r).kind ∧ (obAt h v.r).kind < 21 := c.kind c1; omega⟩) ?_)
      refine sat_fn _ (objectClasses_ok) rfl ?_
      repeat (first | refine sat_same ?_ | refine sat_impA ?_ | refine sat_need (by exact ⟨Int.le_of_lt (c.kind c1).1, by show (obAt h v.r).kind.toNat < 21; have h1 : 0 < (obAt h v.r).kind ∧ (obAt h v.r).kind < 21 := c.kind c1; omega⟩) ?_)
      refine sat_done (exS_normal (ev_ret ?_))
      exact FinV.ret rfl (SubP.int (by rw [clA, if_pos c1, ocS, if_neg c4]))
theorem heapName_ok (h : List Ob) (v : Vl) (g : Uh h) (c : Cf h v) : Fn Tryz.prog 46 [hpD md h, .agg (vlD v)] (.v (.string (obAt h (clA h v)).name)) := by
  refine fn_ev tabT Tryz.func46 rfl rfl rfl rfl rfl rfl ?_
  intro w0 s0 mx
  refine ev_R tabT [] 100 ?_
  refine ev_seq (ev_drawn tabT [] [[], [0], [], [], [2, 3], [0, 1, 2, 3, 4], [0, 1, 2, 3, 4, 5], [0, 1, 2, 3, 4, 5, 6], [0, 1, 2, 3, 4, 5, 6, 7]] 200 mixT (by kernel_rfl) rfl ?_)
  repeat (first | refine sat_same ?_ | refine sat_impA ?_ | refine sat_need (by exact clA_in g c) ?_)
  refine sat_fn _ (heapClassOf_ok h v c) rfl ?_
  repeat (first | refine sat_same ?_ | refine sat_impA ?_ | refine sat_need (by exact clA_in g c) ?_)
  refine sat_done (exS_normal (ev_ret ?_))
  exact FinV.ret rfl (SubP.refl _)
end Go.Proofs.YtnkjenaanjnihaaGreatDoor


/- Walks by the evaluator: heap.IsName. -/
namespace Go.Proofs.YtnkjenaanjnihaaGreatDoor
open Go.RowKit
variable {md me : Bool}
end Go.Proofs.YtnkjenaanjnihaaGreatDoor


/- Walks by the evaluator: heap.IsName is NameOk. -/
namespace Go.Proofs.YtnkjenaanjnihaaGreatDoor
open Go.RowKit
variable {md me : Bool}
end Go.Proofs.YtnkjenaanjnihaaGreatDoor


/- Walks by the evaluator: heap.Int. -/
namespace Go.Proofs.YtnkjenaanjnihaaGreatDoor
open Go.RowKit
variable {md me : Bool}
def nuV (n : Int) : Vl := ⟨2, decide (n < 0), lim n.natAbs, false, [], ByteArray.empty, 0⟩
end Go.Proofs.YtnkjenaanjnihaaGreatDoor


/- Walks by the evaluator: N: numbers of the document. -/
namespace Go.Proofs.YtnkjenaanjnihaaGreatDoor
open Go.RowKit
variable {md me : Bool}
end Go.Proofs.YtnkjenaanjnihaaGreatDoor


/- Walks by the evaluator: naturals of the document. -/
namespace Go.Proofs.YtnkjenaanjnihaaGreatDoor
open Go.RowKit
variable {md me : Bool}
end Go.Proofs.YtnkjenaanjnihaaGreatDoor


/- Two's complement of limbs. Plain. -/
namespace Go.Proofs.YtnkjenaanjnihaaGreatDoor
theorem lg_at {l : List Nat} (h : Lg l) (i : Nat) : l.getD i 0 < 4294967296 := by
  rcases Nat.lt_or_ge i l.length with h1 | h1
  · rw [L_getD_lt h1]; exact h.at h1
  · rw [List.getD_eq_getElem?_getD, List.getElem?_eq_none h1]; show 0 < _; omega
theorem top_V {l : List Nat} {n : Nat} (hl : l.length = n + 1) : VL l = VL (l.take n) + 4294967296 ^ n * l.getD n 0 := by
  rw [L_getD_lt (by omega), ← L_take_succ (by omega), List.take_of_length_le (by omega)]
structure TrmL (l : List Nat) where
  r : List Nat
  lg : Lg r
  eq : VL r = VL l
  le : r.length ≤ l.length
theorem last_takeL {r : List Nat} (h : 0 < r.length) (h0 : r.getD (r.length - 1) 0 = 0) : VL (r.take (r.length - 1)) = VL r := by
  have h1 := top_V (l := r) (n := r.length - 1) (by omega)
  rw [h0] at h1
  omega
def TrmL.next {l : List Nat} (x : TrmL l) (h : 0 < x.r.length) (h0 : x.r.getD (x.r.length - 1) 0 = 0) : TrmL l := ⟨x.r.take (x.r.length - 1), x.lg.take _, by rw [last_takeL h h0, x.eq], by have := x.le; simp; omega⟩
theorem TrmL.fin {l : List Nat} (x : TrmL l) (h : 0 < x.r.length → x.r.getD (x.r.length - 1) 0 ≠ 0) : x.r = lim (VL l) := by
  rw [← x.eq]
  refine (lim_V x.lg fun hne => ?_).symm
  have hp : 0 < x.r.length := List.length_pos_iff.2 hne
  rw [List.getLast_eq_getElem, ← L_getD_lt (by omega)]
  exact h hp
end Go.Proofs.YtnkjenaanjnihaaGreatDoor


/- Valid numbers and their limbs. Plain. -/
namespace Go.Proofs.YtnkjenaanjnihaaGreatDoor
theorem int_ok {b : Bool} {l : List Nat} (hg : Lg l) (h : intOk b l = true) : l = lim (VL l) ∧ b = decide (ZI b (VL l) < 0) ∧ l.length ≤ 128 := by
  unfold intOk at h
  rw [Bool.and_eq_true, Bool.or_eq_true, Bool.and_eq_true, Bool.and_eq_true, decide_eq_true_eq, decide_eq_true_eq, decide_eq_true_eq, decide_eq_true_eq] at h
  obtain ⟨h1, h2⟩ := h
  rcases h2 with ⟨h2, h3⟩ | ⟨h2, h3⟩
  · have hl : l = [] := List.eq_nil_of_length_eq_zero h2
    subst hl
    have hb : b = false := by simpa using h3
    subst hb
    exact ⟨by rw [L_nil, lim_zero], rfl, Nat.zero_le _⟩
  · have hn : NoLeadL l := fun hne => by
      rw [List.getLast_eq_getElem]
      rwa [L_getD_lt (by omega)] at h3
    have hv := (lim_V hg hn).symm
    refine ⟨hv, ?_, h1⟩
    have hp : 0 < VL l := by
      rcases Nat.eq_zero_or_pos (VL l) with h0 | h0
      · rw [h0, lim_zero] at hv
        rw [hv] at h2
        exact absurd h2 (by decide)
      · exact h0
    unfold ZI
    cases b
    · simp
    · simp; omega
theorem lim_nil {n : Nat} : lim n = [] ↔ n = 0 := by
  constructor
  · intro h
    rcases Nat.eq_zero_or_pos n with h0 | h0
    · exact h0
    · rw [lim_pos (by omega)] at h; cases h
  · rintro rfl; exact lim_zero
theorem ZI_of (z : Int) : ZI (decide (z < 0)) z.natAbs = z := by
  unfold ZI
  by_cases h : z < 0
  · rw [decide_eq_true h, if_pos rfl]; omega
  · rw [decide_eq_false h, if_neg (by decide)]; omega
end Go.Proofs.YtnkjenaanjnihaaGreatDoor


/- Unary operators on numbers. Plain. -/
namespace Go.Proofs.YtnkjenaanjnihaaGreatDoor
def tooB : ByteArray := ⟨#[118, 97, 108, 117, 101, 32, 105, 115, 32, 116, 111, 111, 32, 108, 97, 114, 103, 101]⟩
end Go.Proofs.YtnkjenaanjnihaaGreatDoor


/- Walks by the evaluator: integers of the program. -/
namespace Go.Proofs.YtnkjenaanjnihaaGreatDoor
open Go.RowKit
variable {md me : Bool}
def faD (c i : Int) : D := .agg [.v (.int .i64 c), .v (.int .i64 i)]
def limN : Nat → Nat → List Nat
  | 0, _ => []
  | n + 1, v => v % 4294967296 :: limN n (v / 4294967296)
theorem limN_len : ∀ n v, (limN n v).length = n
  | 0, _ => rfl
  | n + 1, v => by rw [limN, List.length_cons, limN_len n]
theorem limN_Lg : ∀ n v, Lg (limN n v)
  | 0, _ => Lg.nil
  | n + 1, v => fun x hx => by
    rw [limN] at hx
    rcases List.mem_cons.1 hx with rfl | hx
    · exact Nat.mod_lt _ (by decide)
    · exact limN_Lg n _ x hx
theorem limN_V : ∀ {l : List Nat}, Lg l → limN l.length (VL l) = l
  | [], _ => rfl
  | d :: l, h => by
    have h1 := h d List.mem_cons_self
    rw [L_cons, List.length_cons, limN, show (d + 4294967296 * VL l) % 4294967296 = d by omega, show (d + 4294967296 * VL l) / 4294967296 = VL l by omega, limN_V fun x hx => h x (List.mem_cons_of_mem _ hx)]
theorem V_limN {n v : Nat} (h : v < 4294967296 ^ n) : VL (limN n v) = v := by
  induction n generalizing v with
  | zero => simp at h; subst h; rfl
  | succ n ih =>
    rw [limN, L_cons, ih (by rw [Nat.pow_succ] at h; omega)]
    omega
theorem Lg_app {l r : List Nat} (h1 : Lg l) (h2 : Lg r) : Lg (l ++ r) := fun x hx => (List.mem_append.1 hx).elim (h1 x) (h2 x)
theorem fdiv_pow {s : Nat} {p : Int} {q : Nat} (h : p = (q : Int)) : Int.fdiv (s : Int) p = ((s / q : Nat) : Int) := by
  subst h
  rw [Int.fdiv_eq_ediv_of_nonneg _ (by omega)]; rfl
theorem store_at {o x : List Nat} {k v : Nat} (ho : o.length = k) (hk : k < x.length) : (MR.upd (.map (o ++ x.drop k) uD 0) k (uD v)).rows = (MR.map ((o ++ [v]) ++ x.drop (k + 1)) uD 0).rows := by
  simp only [MR.rows]
  rw [← List.map_set]
  congr 1
  rw [List.set_append_right _ _ (by omega), ho, Nat.sub_self, List.drop_eq_getElem_cons hk, List.set_cons_zero]
  simp
theorem row_at {o x : List Nat} {k : Nat} (ho : o.length = k) : (o ++ x.drop k).getD k 0 = x.getD k 0 := by
  rw [List.getD_eq_getElem?_getD, List.getElem?_append_right (by omega), ho, Nat.sub_self, List.getElem?_drop, List.getD_eq_getElem?_getD]; rfl
theorem SubP.fn0 {f : FuncId} : SubP (.v (.func (.func f) #[] #[])) (.clo f []) := fun _ _ _ h => ⟨[], h, trivial⟩
theorem intValid_ok (b : Bool) (l : List Nat) (hl : l.length ≤ 2000000) : Fn Tryz.prog 163 [.agg [.v (.bool b), usD l]] (.v (.bool (intOk b l))) := by
  refine fn_ev tabT Tryz.func163 rfl rfl rfl rfl rfl rfl ?_
  intro w0 s0 mx
  refine ev_R tabT [] 100 ?_
  refine ev_R tabT [] 200 ?_
  refine ev_seq (ev_region tabT [] 300 rfl ?_)
  repeat (first | refine sat_same ?_ | refine sat_impA ?_ | refine sat_need (by first | exact trivial | omega | exact ini (by omega) (by omega) | (intro hh; simp at hh; exact ini (by omega) (by omega)) | (intro hh; simp at hh ⊢; omega) | (simp at *; omega) | (simp_all; done) | (intros; exact ini (by omega) (by omega))) ?_)
  refine sat_done (exS_normal (ev_ret ?_))
  exact FinV.ret rfl (SubP.bool (by rw [← intOk_raw]))
theorem CloneU_ok (l : List Nat) (hl : l.length ≤ 2000000) : FnO Tryz.prog 166 [usD l] 48 1 (l.map uD) := by
  refine fnO_ev Tryz.func166 rfl rfl rfl rfl rfl rfl ?_
  intro w0 s0 mx
  refine ev_seq (ev_region tabT [5] 100 rfl ?_)
  repeat (first | refine sat_same ?_ | refine sat_impA ?_ | refine sat_need (by exact lenMap hl) ?_)
  refine sat_done (exS_normal (ev_seq (ev_seq ?_)))
  refine ev_nilRegion Tryz.underlying22 rfl rfl rfl fun c hc => ?_
  refine exS_normal (ev_cond rfl (fun c1 => ?_) (fun c1 => ?_))
  ·
    refine ev_seq (ev_region tabT [5] 300 rfl ?_)
    repeat (first | refine sat_same ?_ | refine sat_impA ?_ | refine sat_need (by exact lenMap hl) ?_)
    refine sat_done (exS_normal (ev_ret (exS_ret ?_)))
    exact FinO.nil rfl (by rw [hc c1]; rfl)
  ·
    refine ev_skip (exS_normal ?_)
    refine ev_seq (ev_region tabT [5] 400 rfl ?_)
    repeat (first | refine sat_same ?_ | refine sat_impA ?_ | refine sat_need (by first | rfl | exact lenMap hl | (rw [List.length_nil]; have := lenMap (f := uD) hl; omega) | (have := lenMap (f := uD) hl; simp at this ⊢; omega)) ?_)
    refine sat_done (exS_normal (ev_ret ?_))
    exact FinO.ret rfl rfl rfl rfl
end Go.Proofs.YtnkjenaanjnihaaGreatDoor


/- The arithmetic of limbs: compare, add, sub. Plain. -/
namespace Go.Proofs.YtnkjenaanjnihaaGreatDoor
theorem lim_len_lt {x y : Nat} (h : (lim x).length < (lim y).length) : x < y := by
  have h0 : y ≠ 0 := by intro e; subst e; rw [lim_zero] at h; simp at h
  have h1 := lim_lt x
  have h2 := lim_ge h0
  exact Nat.lt_of_lt_of_le h1 (Nat.le_trans (Nat.pow_le_pow_right (by omega) (by omega)) h2)
theorem lim_len_mono {x y : Nat} (h : x ≤ y) : (lim x).length ≤ (lim y).length := by
  rcases Nat.lt_or_ge (lim y).length (lim x).length with h1 | h1
  · have := lim_len_lt h1; omega
  · exact h1
def cmpL (x y : Nat) : Int := if (lim x).length = (lim y).length then cmpN x y else ((lim x).length : Int) - ((lim y).length : Int)
theorem cmpL_ne {x y : Nat} (h : (lim x).length ≠ (lim y).length) : cmpL x y = ((lim x).length : Int) - ((lim y).length : Int) := if_neg h
theorem cmpL_eq {x y : Nat} (h : (lim x).length = (lim y).length) : cmpL x y = cmpN x y := if_pos h
theorem cmpL_N (x y : Nat) : min (max (cmpL x y) (-1)) 1 = cmpN x y := by
  unfold cmpL
  split
  · unfold cmpN
    split
    · rfl
    · split <;> rfl
  · rename_i h
    rcases Nat.lt_or_gt_of_ne h with h1 | h1
    · rw [cmpN, if_pos (lim_len_lt h1)]; omega
    · have := lim_len_lt h1
      rw [cmpN, if_neg (by omega), if_pos this]; omega
theorem cmpL_neg (x y : Nat) : cmpL x y < 0 ↔ x < y := by
  have h := cmpL_N x y
  unfold cmpN at h
  constructor
  · intro h1
    by_cases h2 : x < y
    · exact h2
    · rw [if_neg h2] at h
      split at h <;> omega
  · intro h1
    rw [if_pos h1] at h
    omega
structure CpL (a b : Nat) where
  k : Nat
  le : k ≤ (lim a).length
  eq : (lim a).drop k = (lim b).drop k
def CpL.next {a b : Nat} (x : CpL a b) (hl : (lim a).length = (lim b).length) (h : 0 < x.k) (he : (lim a).getD (x.k - 1) 0 = (lim b).getD (x.k - 1) 0) : CpL a b := ⟨x.k - 1, by have := x.le; omega, by
  have h1 := x.le
  rw [L_getD_lt (by omega), L_getD_lt (by omega)] at he
  rw [List.drop_eq_getElem_cons (by omega), List.drop_eq_getElem_cons (l := lim b) (by omega), he, show x.k - 1 + 1 = x.k by omega, x.eq]⟩
theorem ltL_at {la lb : List Nat} {i : Nat} (ha : Lg la) (hl : la.length = lb.length) (hi : i < la.length) (hd : la.drop (i + 1) = lb.drop (i + 1)) (h : la[i] < lb[i]) : VL la < VL lb := by
  rw [L_take_drop la (i + 1) (by omega), L_take_drop lb (i + 1) (by omega), hd, L_take_succ hi, L_take_succ (l := lb) (m := i) (by omega)]
  have h1 := L_lt (ha.take i)
  rw [List.length_take, Nat.min_eq_left (Nat.le_of_lt hi)] at h1
  have h2 : 4294967296 ^ i * (la[i] + 1) ≤ 4294967296 ^ i * lb[i] := Nat.mul_le_mul_left _ h
  rw [Nat.mul_add] at h2
  omega
theorem cpl_lt {a b k : Nat} (hl : (lim a).length = (lim b).length) (hk : 0 < k) (hk2 : k ≤ (lim a).length) (hd : (lim a).drop k = (lim b).drop k) (h : (lim a).getD (k - 1) 0 < (lim b).getD (k - 1) 0) : a < b := by
  rw [L_getD_lt (by omega), L_getD_lt (by omega)] at h
  have := ltL_at (lim_Dg a) hl (i := k - 1) (by omega) (by rw [show k - 1 + 1 = k by omega]; exact hd) h
  rwa [L_dig, L_dig] at this
theorem VL_take_ge {l : List Nat} {k : Nat} (h : l.length ≤ k) : VL (l.take (k + 1)) = VL (l.take k) := by rw [List.take_of_length_le h, List.take_of_length_le (by omega)]
theorem getD_geL {l : List Nat} {k : Nat} (h : l.length ≤ k) : l.getD k 0 = 0 := by rw [List.getD_eq_getElem?_getD, List.getElem?_eq_none h]; rfl
theorem VL_take_one (l : List Nat) (k : Nat) : VL (l.take (k + 1)) = VL (l.take k) + 4294967296 ^ k * l.getD k 0 := by
  rcases Nat.lt_or_ge k l.length with h | h
  · rw [L_take_succ h, L_getD_lt h]
  · rw [VL_take_ge h, getD_geL h]; omega
structure PlL (a b : List Nat) where
  k : Nat
  c : Nat
  o : List Nat
  eq : VL o + c * 4294967296 ^ k = VL (a.take k) + VL (b.take k)
  lo : o.length = k
  lg : Lg o
  hc : c ≤ 1
  le : k ≤ a.length
def PlL.s {a b : List Nat} (x : PlL a b) : Nat := x.c + a.getD x.k 0 + b.getD x.k 0
theorem pll_step {a b o : List Nat} {k c s : Nat} (h : VL o + c * 4294967296 ^ k = VL (a.take k) + VL (b.take k)) (ho : o.length = k) (hs : s = c + a.getD k 0 + b.getD k 0) :
    VL (o ++ [s % 4294967296]) + s / 4294967296 * 4294967296 ^ (k + 1) = VL (a.take (k + 1)) + VL (b.take (k + 1)) := by
  rw [L_snoc, ho, VL_take_one a, VL_take_one b, Nat.pow_succ]
  generalize 4294967296 ^ k = B at *
  have e : s = 4294967296 * (s / 4294967296) + s % 4294967296 := (Nat.div_add_mod s 4294967296).symm
  have e2 : B * s = B * (4294967296 * (s / 4294967296)) + B * (s % 4294967296) := by rw [← Nat.mul_add, ← e]
  have e3 : B * s = B * c + B * a.getD k 0 + B * b.getD k 0 := by rw [hs, Nat.mul_add, Nat.mul_add]
  have e4 : s / 4294967296 * (B * 4294967296) = B * (4294967296 * (s / 4294967296)) := by rw [Nat.mul_comm, Nat.mul_assoc]
  have e5 : c * B = B * c := Nat.mul_comm _ _
  omega
theorem PlL.s_le {a b : List Nat} (x : PlL a b) (ha : Lg a) (hb : Lg b) : x.s ≤ 8589934591 := by
  have h1 := lg_at ha x.k
  have h2 := lg_at hb x.k
  have h3 := x.hc
  unfold PlL.s
  omega
def PlL.next {a b : List Nat} (x : PlL a b) (ha : Lg a) (hb : Lg b) (h : x.k < a.length) : PlL a b := ⟨x.k + 1, x.s / 4294967296, x.o ++ [x.s % 4294967296], pll_step x.eq x.lo rfl, by simp [x.lo], x.lg.snoc (Nat.mod_lt _ (by decide)), by have := x.s_le ha hb; omega, h⟩
def PlL.start (a b : List Nat) : PlL a b := ⟨0, 0, [], by simp [VL], rfl, Lg.nil, Nat.zero_le _, Nat.zero_le _⟩
theorem PlL.fin {a b : List Nat} (x : PlL a b) (h : a.length ≤ x.k) (hl : b.length ≤ a.length) : VL (x.o ++ [x.c]) = VL a + VL b ∧ Lg (x.o ++ [x.c]) := by
  have h1 := x.eq
  rw [List.take_of_length_le h, List.take_of_length_le (by omega)] at h1
  refine ⟨by rw [L_snoc, x.lo, Nat.mul_comm]; exact h1, x.lg.snoc (by have := x.hc; omega)⟩
structure MiL (a b : List Nat) where
  k : Nat
  c : Nat
  o : List Nat
  eq : VL o + VL (b.take k) = VL (a.take k) + c * 4294967296 ^ k
  lo : o.length = k
  lg : Lg o
  hc : c ≤ 1
  le : k ≤ a.length
def lsD (x y b : Nat) : Nat := (x + 8589934592 - y - b) % 4294967296
def lsB (x y b : Nat) : Nat := if x < y + b then 1 else 0
theorem sb_eq {x y b : Nat} (hx : x < 4294967296) (hy : y < 4294967296) (hb : b ≤ 1) : lsD x y b + y + b = x + 4294967296 * lsB x y b := by
  unfold lsD lsB
  split <;> omega
theorem sb_lt (x y b : Nat) : lsD x y b < 4294967296 := Nat.mod_lt _ (by decide)
theorem lsB_le (x y b : Nat) : lsB x y b ≤ 1 := by unfold lsB; split <;> omega
theorem mil_step {a b o : List Nat} {k c y d : Nat} (h : VL o + VL (b.take k) = VL (a.take k) + c * 4294967296 ^ k) (ho : o.length = k) (hy : y + b.getD k 0 + c = a.getD k 0 + 4294967296 * d) :
    VL (o ++ [y]) + VL (b.take (k + 1)) = VL (a.take (k + 1)) + d * 4294967296 ^ (k + 1) := by
  rw [L_snoc, ho, VL_take_one a, VL_take_one b, Nat.pow_succ]
  generalize 4294967296 ^ k = B at *
  have e : B * y + B * b.getD k 0 + B * c = B * a.getD k 0 + B * (4294967296 * d) := by rw [← Nat.mul_add, ← Nat.mul_add, ← Nat.mul_add, hy]
  have e4 : d * (B * 4294967296) = B * (4294967296 * d) := by rw [Nat.mul_comm, Nat.mul_assoc]
  have e5 : c * B = B * c := Nat.mul_comm _ _
  omega
def MiL.next {a b : List Nat} (x : MiL a b) (ha : Lg a) (hb : Lg b) (h : x.k < a.length) : MiL a b := ⟨x.k + 1, lsB (a.getD x.k 0) (b.getD x.k 0) x.c, x.o ++ [lsD (a.getD x.k 0) (b.getD x.k 0) x.c], mil_step x.eq x.lo (sb_eq (lg_at ha _) (lg_at hb _) x.hc), by simp [x.lo], x.lg.snoc (sb_lt _ _ _), lsB_le _ _ _, h⟩
def MiL.start (a b : List Nat) : MiL a b := ⟨0, 0, [], by simp [VL], rfl, Lg.nil, Nat.zero_le _, Nat.zero_le _⟩
theorem MiL.fin {a b : List Nat} (x : MiL a b) (h : a.length ≤ x.k) (hl : b.length ≤ a.length) (hle : VL b ≤ VL a) : VL x.o = VL a - VL b := by
  have hk := x.le
  have h1 := x.eq
  have h2 := x.hc
  have h3 := L_lt x.lg
  rw [List.take_of_length_le h, List.take_of_length_le (by omega)] at h1
  rw [x.lo] at h3
  rcases Nat.eq_zero_or_pos x.c with h4 | h4
  · rw [h4] at h1; omega
  · rw [show x.c = 1 by omega] at h1; omega
end Go.Proofs.YtnkjenaanjnihaaGreatDoor


/- math/bits.Sub32: what it computes. Plain. -/
namespace Go.Proofs.YtnkjenaanjnihaaGreatDoor
theorem wb32 (v : BitVec 32) : IntKind.u32.wrap (v.toNat : Int) = (v.toNat : Int) := by
  have := v.isLt
  simp only [IntKind.wrap, IntKind.signed, IntKind.bits, Bool.false_and, Bool.false_eq_true, if_false]
  omega
theorem ofb32 (v : BitVec 32) : BitVec.ofInt 32 (v.toNat : Int) = v := by rw [BitVec.ofInt_natCast, BitVec.ofNat_toNat, BitVec.setWidth_eq]
theorem bAnd32 (x y : BitVec 32) : bAnd .u32 (x.toNat : Int) (y.toNat : Int) = ((x &&& y).toNat : Int) := by
  show IntKind.u32.wrap ((BitVec.ofInt 32 (x.toNat : Int) &&& BitVec.ofInt 32 (y.toNat : Int)).toNat : Int) = _
  rw [ofb32, ofb32, wb32]
theorem bOr32 (x y : BitVec 32) : bOr .u32 (x.toNat : Int) (y.toNat : Int) = ((x ||| y).toNat : Int) := by
  show IntKind.u32.wrap ((BitVec.ofInt 32 (x.toNat : Int) ||| BitVec.ofInt 32 (y.toNat : Int)).toNat : Int) = _
  rw [ofb32, ofb32, wb32]
theorem bXor32 (x y : BitVec 32) : bXor .u32 (x.toNat : Int) (y.toNat : Int) = ((x ^^^ y).toNat : Int) := by
  show IntKind.u32.wrap ((BitVec.ofInt 32 (x.toNat : Int) ^^^ BitVec.ofInt 32 (y.toNat : Int)).toNat : Int) = _
  rw [ofb32, ofb32, wb32]
theorem bNot32 (x : BitVec 32) : bNot .u32 (x.toNat : Int) = ((~~~x).toNat : Int) := by
  show IntKind.u32.wrap ((BitVec.ofInt 32 4294967295 ^^^ BitVec.ofInt 32 (x.toNat : Int)).toNat : Int) = _
  rw [ofb32, show BitVec.ofInt 32 4294967295 = BitVec.allOnes 32 by decide, BitVec.allOnes_xor, wb32]
theorem top32 (v : BitVec 32) : v.toNat / 2147483648 = if v.msb then 1 else 0 := by
  have h := v.isLt
  rw [BitVec.msb_eq_decide]
  by_cases h1 : 2 ^ (32 - 1) ≤ v.toNat
  · rw [decide_eq_true h1, if_pos rfl]; omega
  · rw [decide_eq_false h1, if_neg (by decide)]; omega
theorem msb32 {x : Nat} (h : x < 4294967296) : (BitVec.ofNat 32 x).msb = decide (2147483648 ≤ x) := by
  rw [BitVec.msb_eq_decide, BitVec.toNat_ofNat, Nat.mod_eq_of_lt h]
theorem nat32 {x : Nat} (h : x < 4294967296) : x = (BitVec.ofNat 32 x).toNat := by rw [BitVec.toNat_ofNat, Nat.mod_eq_of_lt h]
theorem sub32_lo {x y b : Nat} (hx : x < 4294967296) (hy : y < 4294967296) (hb : b ≤ 1) : IntKind.u32.wrap (IntKind.u32.wrap ((x : Int) - (y : Int)) - (b : Int)) = ((lsD x y b : Nat) : Int) := by
  simp only [IntKind.wrap, IntKind.signed, IntKind.bits, Bool.false_and, Bool.false_eq_true, if_false, lsD]
  omega
theorem sub32_hi {x y b : Nat} (hx : x < 4294967296) (hy : y < 4294967296) (hb : b ≤ 1) :
    Int.fdiv (bOr .u32 (bAnd .u32 (bNot .u32 (x : Int)) (y : Int)) (bAnd .u32 (bNot .u32 (bXor .u32 (x : Int) (y : Int))) ((lsD x y b : Nat) : Int))) (2 ^ min (Int.toNat 31) IntKind.u32.bits) = ((lsB x y b : Nat) : Int) := by
  have hd : lsD x y b < 4294967296 := sb_lt x y b
  have hs := sb_eq hx hy hb
  have m1 := msb32 hx
  have m2 := msb32 hy
  have m3 := msb32 hd
  rw [show ((x : Nat) : Int) = ((BitVec.ofNat 32 x).toNat : Int) by rw [← nat32 hx], show ((y : Nat) : Int) = ((BitVec.ofNat 32 y).toNat : Int) by rw [← nat32 hy], show ((lsD x y b : Nat) : Int) = ((BitVec.ofNat 32 (lsD x y b)).toNat : Int) by rw [← nat32 hd], bNot32, bAnd32, bXor32, bNot32, bAnd32, bOr32]
  rw [show ((2 : Int) ^ min (Int.toNat 31) IntKind.u32.bits) = ((2147483648 : Nat) : Int) by decide, Int.fdiv_eq_ediv_of_nonneg _ (by omega), ← Int.natCast_ediv, top32]
  simp only [BitVec.msb_or, BitVec.msb_and, BitVec.msb_not, BitVec.msb_xor, m1, m2, m3]
  congr 1
  unfold lsB at *
  generalize lsD x y b = d at *
  by_cases h1 : 2147483648 ≤ x <;> by_cases h2 : 2147483648 ≤ y <;> by_cases h3 : 2147483648 ≤ d <;> by_cases h4 : x < y + b <;> simp only [h1, h2, h3, h4, decide_true, decide_false, if_true, if_false, Bool.and_true, Bool.and_false, Bool.not_true, Bool.not_false, Bool.or_true, Bool.or_false, Bool.true_and, Bool.false_and, Bool.xor_true, Bool.xor_false, Bool.true_or, Bool.false_or] at hs ⊢ <;> (first | rfl | omega)
end Go.Proofs.YtnkjenaanjnihaaGreatDoor


/- Walks by the evaluator: natural numbers of the program. -/
namespace Go.Proofs.YtnkjenaanjnihaaGreatDoor
open Go.RowKit
variable {md me : Bool}
theorem lim_top {x : Nat} (h : 0 < (lim x).length) : (lim x).getD ((lim x).length - 1) 0 ≠ 0 := by
  have h1 := lim_noLead x (List.length_pos_iff.1 h)
  rwa [List.getLast_eq_getElem, ← L_getD_lt (by omega)] at h1
theorem natValid_ok (x : Nat) (hx : (lim x).length ≤ 600) : Fn Tryz.prog 164 [usD (lim x)] (.v (.bool true)) := by
  refine fn_ev tabT Tryz.func164 rfl rfl rfl rfl rfl rfl ?_
  intro w0 s0 mx
  refine ev_R tabT [] 100 ?_
  refine ev_seq (ev_region tabT [] 200 rfl ?_)
  repeat (first | refine sat_same ?_ | refine sat_impA ?_ | refine sat_need (by first | exact trivial | omega | exact ini (by omega) (by omega) | (intro hh; simp at hh; exact ini (by omega) (by omega)) | (intro hh; simp at hh ⊢; omega) | (simp at *; omega) | (simp_all; done) | (simp; intro _ h2; have := List.length_pos_iff.2 h2; omega)) ?_)
  refine sat_done (exS_normal (ev_ret ?_))
  exact FinV.ret rfl (SubP.bool (by simp; refine ⟨by omega, ?_⟩; by_cases h : lim x = []; exact Or.inl h; exact Or.inr (by have := lim_top (x := x) (List.length_pos_iff.2 h); rwa [List.getD_eq_getElem?_getD] at this)))
theorem natCheck_ok (x y : Nat) (hx : (lim x).length ≤ 600) (hy : (lim y).length ≤ 600) : Fn Tryz.prog 141 [usD (lim x), usD (lim y)] (faD 0 0) := by
  refine fn_ev tabT Tryz.func141 rfl rfl rfl rfl rfl rfl ?_
  intro w0 s0 mx
  refine ev_R tabT [] 100 ?_
  refine ev_seq (ev_block ?_)
  refine ev_seq (ev_region tabT [] 200 rfl ?_)
  refine sat_go ?_
  refine sat_fn _ (natValid_ok _ (by first | assumption | omega | (simp_all; done))) rfl ?_
  refine sat_go ?_
  refine sat_done (exS_normal (ev_if (fun c1 => ?_) (fun c1 => ?_)))
  ·
    exact absurd c1 (by decide)
  ·
    refine ev_seq (ev_region tabT [] 400 rfl ?_)
    refine sat_go ?_
    refine sat_fn _ (natValid_ok _ (by first | assumption | omega | (simp_all; done))) rfl ?_
    refine sat_go ?_
    refine sat_done (exS_normal (ev_if (fun c3 => ?_) (fun c3 => ?_)))
    ·
      exact absurd c3 (by decide)
    ·
      refine ev_skip (exBl_normal (exS_normal (ev_R tabT [] 600 ?_)))
      refine ev_ret ?_
      exact FinV.ret rfl (SubP.refl _)
theorem natTrim_ok (l : List Nat) (hg : Lg l) (hl : l.length ≤ 100000000) : Fn Tryz.prog 165 [usD l] (usD (lim (VL l))) := by
  refine fn_ev tabT Tryz.func165 rfl rfl rfl rfl rfl rfl ?_
  intro w0 s0 mx
  refine ev_R tabT [] 100 ?_
  refine ev_seq (ev_block ?_)
  refine ev_loopK (ι := TrmL l) [] [] 150 (fun x => [(0, .sl false 1 x.r uD 0)]) (fun _ => []) (fun x => x.r.length) ⟨l, hg, rfl, Nat.le_refl _⟩ ?_
  refine ⟨⟨le_t, le_o, rfl, rfl⟩, fun x => ?_⟩
  have hk := x.le
  refine ev_seq (ev_R tabT [] 200 ?_)
  refine ev_if (fun c1 => ?_) (fun c1 => ?_)
  ·
    refine ev_skip (exS_normal (ev_block (ev_Q tabT [] 300 ?_)))
    refine exBl_normal ?_
    have h9 := c1.2
    rw [t_last] at h9
    exact exL_normal (x.next (by omega) (by omega)) ⟨(by first | exact trivial | (repeat (first | exact trivial | exact Sub.refl _ | refine ⟨?_, ?_⟩ | exact Sub.int (by first | rfl | omega | (push_cast; omega)) | exact Sub.nilSl | exact Sub.own rfl | exact Sub.slrSl rfl | exact Sub.ownSl (List.map_append).symm | exact Sub.ownSl rfl | exact Sub.of_eq (by rw [t_cut]; rfl)))), le_o, rfl, rfl⟩ (by show (x.r.take (x.r.length - 1)).length < x.r.length; rw [List.length_take]; omega)
  ·
    refine ev_exit (exS_exit (exL_exit (exBl_same (exS_normal (ev_R tabT [] 400 ?_)))))
    refine ev_ret ?_
    rw [t_last] at c1
    have e : x.r = lim (VL l) := x.fin (fun hp h9 => by rw [h9, decide_eq_true (show (0 : Int) < (x.r.length : Nat) by omega)] at c1; exact absurd c1 (by decide))
    exact FinV.ret rfl (SubP.of_eq (by rw [e]; rfl))
theorem natFit_ok (l : List Nat) (hg : Lg l) (hl : l.length ≤ 100000000) (h6 : (lim (VL l)).length ≤ 600) : Fn Tryz.prog 142 [usD l] (.tup [usD (lim (VL l)), faD 0 0]) := by
  refine fn_ev tabT Tryz.func142 rfl rfl rfl rfl rfl rfl ?_
  intro w0 s0 mx
  refine ev_R tabT [] 100 ?_
  refine ev_seq ?_
  refine ev_seq (ev_region tabT [] 200 rfl ?_)
  refine sat_go ?_
  refine sat_fn _ (natTrim_ok _ (by first | assumption | omega | (simp_all; done)) (by first | assumption | omega | (simp_all; done))) rfl ?_
  refine sat_go ?_
  refine sat_done (exS_normal (ev_R tabT [] 300 ?_))
  refine ev_if (fun c2 => ?_) (fun c2 => ?_)
  ·
    exact absurd c2 (by omega)
  ·
    refine ev_skip (exS_normal (ev_R tabT [] 500 ?_))
    refine ev_ret ?_
    exact FinV.ret rfl (SubP.refl _)
theorem natCompare_ok (a b : Nat) (ha : (lim a).length ≤ 100000000) (hb : (lim b).length ≤ 100000000) : Fn Tryz.prog 147 [usD (lim a), usD (lim b)] (.v (.int .i64 (cmpL a b))) := by
  refine fn_ev tabT Tryz.func147 rfl rfl rfl rfl rfl rfl ?_
  intro w0 s0 mx
  refine ev_R tabT [] 100 ?_
  refine ev_seq (ev_R tabT [] 200 ?_)
  refine ev_if (fun c1 => ?_) (fun c1 => ?_)
  ·
    refine ev_R tabT [] 300 ?_
    refine ev_ret (exS_ret ?_)
    exact FinV.ret rfl (SubP.int (cmpL_ne (by omega)).symm)
  ·
    refine ev_skip (exS_normal (ev_seq (ev_R tabT [] 400 ?_)))
    refine ev_block ?_
    refine ev_loopK (ι := CpL a b) [0, 1] [] 450 (fun x => [(5, .v (.int .i64 ((x.k : Int) - 1)))]) (fun _ => []) (fun x => x.k) ⟨(lim a).length, Nat.le_refl _, by rw [List.drop_of_length_le (Nat.le_refl _), List.drop_of_length_le (by omega)]⟩ ?_
    refine ⟨⟨le_t, le_o, rfl, rfl⟩, fun x => ?_⟩
    have hk := x.le
    have hkt : ((x.k : Int) - 1).toNat = x.k - 1 := by omega
    refine ev_seq (ev_R tabT [] 500 ?_)
    refine ev_if (fun c4 => ?_) (fun c4 => ?_)
    ·
      refine ev_skip (exS_normal (ev_seq (ev_block ?_)))
      refine ev_seq (ev_drawn tabT [] [[], [], [0, 1], [0, 1, 2], [], [], [4, 5], [4, 5, 6], [0, 1, 2, 3, 4, 5, 6, 7]] 700 mixT (by kernel_rfl) rfl ?_)
      refine sat_go ?_
      refine sat_done (exS_normal (ev_if (fun c6 => ?_) (fun c6 => ?_)))
      ·
        refine ev_seq ?_
        refine ev_seq (ev_drawn tabT [] [[], [], [0, 1], [0, 1, 2], [], [], [4, 5], [4, 5, 6], [0, 1, 2, 3, 4, 5, 6, 7]] 800 mixT (by kernel_rfl) rfl ?_)
        refine sat_go ?_
        refine sat_done (exS_normal (ev_if (fun c7 => ?_) (fun c7 => ?_)))
        ·
          refine ev_R tabT [] 900 ?_
          refine ev_ret (exS_ret (exBl_ret (exS_ret (exL_ret (exBl_ret (exS_ret ?_))))))
          rw [hkt] at c7
          exact FinV.ret rfl (SubP.int (by rw [cmpL_eq (by omega), cmp_lt (cpl_lt (by omega) (by omega) hk x.eq (by omega))]))
        ·
          refine ev_skip (exS_normal (ev_R tabT [] 1000 ?_))
          refine ev_ret (exBl_ret (exS_ret (exL_ret (exBl_ret (exS_ret ?_)))))
          rw [hkt] at c6 c7
          exact FinV.ret rfl (SubP.int (by rw [cmpL_eq (by omega), cmp_gt (cpl_lt (by omega) (by omega) (by omega) x.eq.symm (by omega))]))
      ·
        refine ev_skip (exBl_normal (exS_normal (ev_Q tabT [] 800 ?_)))
        rw [hkt] at c6
        exact exL_normal (x.next (by omega) (by omega) (by omega)) ⟨(by first | exact trivial | (repeat (first | exact trivial | exact Sub.refl _ | refine ⟨?_, ?_⟩ | exact Sub.int (by first | rfl | omega | (push_cast; omega)) | exact Sub.nilSl | exact Sub.own rfl | exact Sub.slrSl rfl | exact Sub.ownSl (List.map_append).symm | exact Sub.ownSl rfl | exact Sub.int (by show (x.k : Int) - 1 - 1 = ((x.k - 1 : Nat) : Int) - 1; omega)))), le_o, rfl, rfl⟩ (by show x.k - 1 < x.k; omega)
    ·
      refine ev_exit (exS_exit (exL_exit (exBl_same (exS_normal (ev_R tabT [] 1100 ?_)))))
      refine ev_ret ?_
      have hz : x.k = 0 := by omega
      have he := x.eq
      rw [hz] at he
      exact FinV.ret rfl (SubP.int (by rw [cmpL_eq (by omega), cmp_eq (by have := congrArg VL he; rwa [List.drop_zero, List.drop_zero, L_dig, L_dig] at this)]))
theorem natCmp_ok (a b : Nat) (ha : (lim a).length ≤ 600) (hb : (lim b).length ≤ 600) : Fn Tryz.prog 156 [usD (lim a), usD (lim b)] (.tup [.v (.int .i64 (cmpN a b)), faD 0 0]) := by
  refine fn_ev tabT Tryz.func156 rfl rfl rfl rfl rfl rfl ?_
  intro w0 s0 mx
  refine ev_R tabT [] 100 ?_
  refine ev_seq ?_
  refine ev_seq (ev_region tabT [] 200 rfl ?_)
  refine sat_go ?_
  refine sat_fn _ (natCheck_ok _ _ (by first | assumption | omega | (simp_all; done)) (by first | assumption | omega | (simp_all; done))) rfl ?_
  refine sat_go ?_
  refine sat_done (exS_normal (ev_R tabT [] 300 ?_))
  refine ev_if (fun c2 => ?_) (fun c2 => ?_)
  ·
    exact absurd c2 (by decide)
  ·
    refine ev_skip (exS_normal ?_)
    refine ev_seq (ev_region tabT [] 500 rfl ?_)
    refine sat_go ?_
    refine sat_fn _ (natCompare_ok _ _ (by first | assumption | omega | (simp_all; done)) (by first | assumption | omega | (simp_all; done))) rfl ?_
    refine sat_go ?_
    refine sat_done (exS_normal (ev_ret ?_))
    exact FinV.ret rfl (SubP.tup ⟨SubP.int (by have h := cmpL_N a b; generalize cmpL a b = c at *; rw [← h]; split <;> (try split) <;> (try split at *) <;> omega), SubP.refl _, trivial⟩)
def I32 (x : Int) : Prop := 0 ≤ x ∧ x < 4294967296
theorem i32_at {l : List Nat} (h : Lg l) (i : Nat) : I32 ((l.getD i 0 : Nat) : Int) := by
  have := lg_at h i
  exact ⟨by omega, by omega⟩
theorem i32_0 : I32 0 := ⟨by decide, by decide⟩
theorem Lg_drop {l : List Nat} (h : Lg l) (i : Nat) : Lg (l.drop i) := fun x hx => h x (List.mem_of_mem_drop hx)
theorem sub32_ok {x y b : Int} (hx : I32 x) (hy : I32 y) (hb : 0 ≤ b ∧ b ≤ 1) : IntKind.u32.wrap (IntKind.u32.wrap (x - y) - b) = ((lsD x.toNat y.toNat b.toNat : Nat) : Int) ∧
    Int.fdiv (bOr .u32 (bAnd .u32 (bNot .u32 x) y) (bAnd .u32 (bNot .u32 (bXor .u32 x y)) ((lsD x.toNat y.toNat b.toNat : Nat) : Int))) (2 ^ min (Int.toNat 31) IntKind.u32.bits) = ((lsB x.toNat y.toNat b.toNat : Nat) : Int) := by
  obtain ⟨x, rfl⟩ := Int.eq_ofNat_of_zero_le hx.1
  obtain ⟨y, rfl⟩ := Int.eq_ofNat_of_zero_le hy.1
  obtain ⟨b, rfl⟩ := Int.eq_ofNat_of_zero_le hb.1
  have h1 := hx.2
  have h2 := hy.2
  have h3 := hb.2
  simp only [Int.toNat_natCast]
  exact ⟨sub32_lo (by omega) (by omega) (by omega), sub32_hi (by omega) (by omega) (by omega)⟩
theorem Sub32_ok (x y b : Int) (hx : I32 x) (hy : I32 y) (hb : 0 ≤ b ∧ b ≤ 1) : Fn Tryz.prog 169 [.v (.int .u32 x), .v (.int .u32 y), .v (.int .u32 b)] (.tup [.v (.int .u32 (lsD x.toNat y.toNat b.toNat : Nat)), .v (.int .u32 (lsB x.toNat y.toNat b.toNat : Nat))]) := by
  refine fn_ev tabT Tryz.func169 rfl rfl rfl rfl rfl rfl ?_
  intro w0 s0 mx
  refine ev_R tabT [] 100 ?_
  refine ev_R tabT [] 200 ?_
  refine ev_R tabT [] 300 ?_
  refine ev_ret ?_
  obtain ⟨e1, e2⟩ := sub32_ok hx hy hb
  exact FinV.ret rfl (SubP.tup ⟨SubP.int e1, SubP.int (by rw [e1]; exact e2), trivial⟩)
theorem CloneU_G (l : List Nat) (hl : l.length ≤ 2000000) : FnG Tryz.prog 166 [usD l] [] (.mo 0 l.length) [.mrow 48 1 (.map l uD 0)] := by
  refine fnH_ev tabT Tryz.func166 rfl rfl rfl rfl rfl rfl rfl ?_
  intro w0 s0 mx
  refine ev_seq (ev_region tabT [] 100 rfl ?_)
  repeat (first | refine sat_same ?_ | refine sat_impA ?_ | refine sat_need (by exact lenMap hl) ?_)
  refine sat_done (exS_normal (ev_seq (ev_seq ?_)))
  refine ev_nilRegion Tryz.underlying22 rfl rfl rfl fun c hc => ?_
  refine exS_normal (ev_cond rfl (fun c1 => ?_) (fun c1 => ?_))
  ·
    refine ev_seq (ev_region tabT [] 300 rfl ?_)
    repeat (first | refine sat_same ?_ | refine sat_impA ?_ | refine sat_need (by exact lenMap hl) ?_)
    refine sat_done (exS_normal ?_)
    refine ev_nilRow 2 48 1 rfl ?_
    refine ev_thaw 300 rfl ?_
    refine ev_ret (exS_ret ?_)
    obtain rfl := hc c1
    exact FinH.ret 300 rfl rfl (Sub.refl _) ⟨SubO.mr rfl, trivial⟩
  ·
    refine ev_skip (exS_normal ?_)
    refine ev_seq (ev_region tabT [1005] 400 rfl ?_)
    repeat (first | refine sat_same ?_ | refine sat_impA ?_ | refine sat_need (by first | rfl | exact lenMap hl | (simp only [MR.len, List.length_nil, List.length_map]; omega)) ?_)
    refine sat_done (exS_normal (ev_ret ?_))
    exact FinH.ret 100 rfl rfl (Sub.mo (by rw [List.length_map, Nat.zero_add])) ⟨SubO.mr rfl, trivial⟩
theorem natSub0_ok (a b : Nat) (ha : (lim a).length ≤ 100000) (hb : (lim b).length ≤ 100000) (hle : b ≤ a) : Fn Tryz.prog 148 [usD (lim a), usD (lim b)] (usD (lim (a - b))) := by
  refine fn_ev tabT Tryz.func148 rfl rfl rfl rfl rfl rfl ?_
  intro w0 s0 mx
  refine ev_R tabT [] 100 ?_
  refine ev_seq (ev_region tabT [1010] 200 rfl ?_)
  refine sat_go ?_
  refine sat_fnH _ _ (CloneU_G (lim a) (by omega)) rfl ?_
  refine sat_go ?_
  refine sat_done (exS_normal (ev_R tabT [] 300 ?_))
  refine ev_seq (ev_R tabT [] 400 ?_)
  refine ev_block ?_
  refine ev_loopK (ι := MiL (lim a) (lim b)) [1, 5, 12] [] 450 (fun x => [(6, .v (.int .u32 x.c)), (13, .v (.int .i64 x.k))]) (fun x => [(101, .mrow 48 1 (.map (x.o ++ (lim a).drop x.k) uD 0))]) (fun x => (lim a).length - x.k) (MiL.start _ _) ?_
  refine ⟨⟨le_t, le_o, rfl, rfl⟩, fun x => ?_⟩
  have hk := x.le
  have hlo := x.lo
  have hc1 := x.hc
  have hm : (lim a).length = (MR.map (x.o ++ (lim a).drop x.k) uD 0).len := by rw [MR.len, List.length_append, List.length_drop]; omega
  refine ev_R tabT [] 500 ?_
  refine ev_seq (ev_if (fun c4 => ?_) (fun c4 => ?_))
  ·
    refine ev_skip (exS_normal (ev_seq (ev_block (ev_R tabT [] 600 ?_))))
    refine ev_R tabT [] 700 ?_
    refine ev_seq (ev_R tabT [] 800 ?_)
    refine ev_if (fun c7 => ?_) (fun c7 => ?_)
    ·
      refine ev_Q tabT [] 900 ?_
      refine exS_normal ?_
      refine ev_region tabT [] 1000 rfl ?_
      repeat (first | refine sat_same ?_ | refine sat_impA ?_ | refine sat_need (by first | exact ⟨hm, by rw [← hm]; exact c4⟩ | exact ⟨hm, by rw [← hm]; omega⟩ | first | exact trivial | omega | exact ini (by omega) (by omega) | (intro hh; simp at hh; exact ini (by omega) (by omega)) | (intro hh; simp at hh ⊢; omega) | (simp at *; omega) | (simp_all; done)) ?_)
      refine sat_fn _ (Sub32_ok _ _ _ (i32_at (Lg_app x.lg (Lg_drop (lim_Dg a) _)) _) (by first | exact i32_0 | exact i32_at (lim_Dg b) _) ⟨by omega, by omega⟩) rfl ?_
      repeat (first | refine sat_same ?_ | refine sat_impA ?_ | refine sat_need (by first | exact ⟨hm, by rw [← hm]; exact c4⟩ | exact ⟨hm, by rw [← hm]; omega⟩ | first | exact trivial | omega | exact ini (by omega) (by omega) | (intro hh; simp at hh; exact ini (by omega) (by omega)) | (intro hh; simp at hh ⊢; omega) | (simp at *; omega) | (simp_all; done)) ?_)
      refine sat_done (exBl_normal (exS_normal (ev_Q tabT [] 1100 ?_)))
      exact exL_normal (x.next (lim_Dg a) (lim_Dg b) (by omega)) ⟨(by first | exact trivial | (repeat (first | exact trivial | exact Sub.refl _ | refine ⟨?_, ?_⟩ | exact Sub.int (by first | rfl | omega | (push_cast; omega)) | exact Sub.nilSl | exact Sub.own rfl | exact Sub.slrSl rfl | exact Sub.ownSl (List.map_append).symm | exact Sub.ownSl rfl | exact Sub.int (by (try simp only [Int.toNat_natCast, row_at x.lo]); (try rw [show Int.toNat 0 = (lim b).getD x.k 0 from (getD_geL (by omega)).symm]); rfl)))), ⟨SubO.mr (by (try simp only [Int.toNat_natCast, row_at x.lo]); (try rw [show Int.toNat 0 = (lim b).getD x.k 0 from (getD_geL (by omega)).symm]); exact store_at x.lo (by omega)), le_o⟩, rfl, rfl⟩ (by show (lim a).length - (x.k + 1) < (lim a).length - x.k; omega)
    ·
      refine ev_skip (exS_normal ?_)
      refine ev_region tabT [] 1000 rfl ?_
      repeat (first | refine sat_same ?_ | refine sat_impA ?_ | refine sat_need (by first | exact ⟨hm, by rw [← hm]; exact c4⟩ | exact ⟨hm, by rw [← hm]; omega⟩ | first | exact trivial | omega | exact ini (by omega) (by omega) | (intro hh; simp at hh; exact ini (by omega) (by omega)) | (intro hh; simp at hh ⊢; omega) | (simp at *; omega) | (simp_all; done)) ?_)
      refine sat_fn _ (Sub32_ok _ _ _ (i32_at (Lg_app x.lg (Lg_drop (lim_Dg a) _)) _) (by first | exact i32_0 | exact i32_at (lim_Dg b) _) ⟨by omega, by omega⟩) rfl ?_
      repeat (first | refine sat_same ?_ | refine sat_impA ?_ | refine sat_need (by first | exact ⟨hm, by rw [← hm]; exact c4⟩ | exact ⟨hm, by rw [← hm]; omega⟩ | first | exact trivial | omega | exact ini (by omega) (by omega) | (intro hh; simp at hh; exact ini (by omega) (by omega)) | (intro hh; simp at hh ⊢; omega) | (simp at *; omega) | (simp_all; done)) ?_)
      refine sat_done (exBl_normal (exS_normal (ev_Q tabT [] 1100 ?_)))
      exact exL_normal (x.next (lim_Dg a) (lim_Dg b) (by omega)) ⟨(by first | exact trivial | (repeat (first | exact trivial | exact Sub.refl _ | refine ⟨?_, ?_⟩ | exact Sub.int (by first | rfl | omega | (push_cast; omega)) | exact Sub.nilSl | exact Sub.own rfl | exact Sub.slrSl rfl | exact Sub.ownSl (List.map_append).symm | exact Sub.ownSl rfl | exact Sub.int (by (try simp only [Int.toNat_natCast, row_at x.lo]); (try rw [show Int.toNat 0 = (lim b).getD x.k 0 from (getD_geL (by omega)).symm]); rfl)))), ⟨SubO.mr (by (try simp only [Int.toNat_natCast, row_at x.lo]); (try rw [show Int.toNat 0 = (lim b).getD x.k 0 from (getD_geL (by omega)).symm]); exact store_at x.lo (by omega)), le_o⟩, rfl, rfl⟩ (by show (lim a).length - (x.k + 1) < (lim a).length - x.k; omega)
  ·
    refine ev_exit (exS_exit (exL_exit (exBl_same (exS_normal ?_))))
    refine ev_freeze 101 rfl (by repeat (first | exact trivial | exact hm | refine ⟨?_, ?_⟩)) (by repeat (first | exact trivial | refine ⟨?_, ?_⟩)) ?_
    refine ev_seq (ev_region tabT [] 1200 rfl ?_)
    refine sat_go ?_
    refine sat_fn _ ((natTrim_ok x.o x.lg (by omega)).args ⟨SubP.ownSl (by show List.map uD _ = _; rw [List.drop_of_length_le (by omega), List.append_nil]), trivial⟩) rfl ?_
    refine sat_go ?_
    refine sat_done (exS_normal (ev_ret ?_))
    have e := x.fin (by omega) (lim_len_mono hle) (by rw [L_dig, L_dig]; exact hle)
    rw [L_dig, L_dig] at e
    exact FinV.ret rfl (SubP.of_eq (by rw [e]))
end Go.Proofs.YtnkjenaanjnihaaGreatDoor


/- The arithmetic of limbs: products, and division by one limb. Plain. -/
namespace Go.Proofs.YtnkjenaanjnihaaGreatDoor
theorem VL_set {o : List Nat} {j y : Nat} (h : j < o.length) : VL (o.set j y) + 4294967296 ^ j * o.getD j 0 = VL o + 4294967296 ^ j * y := by
  induction o generalizing j with
  | nil => cases h
  | cons d o ih =>
    cases j with
    | zero => simp [L_cons]; omega
    | succ j =>
      have h1 := ih (j := j) (by simpa using h)
      rw [List.set_cons_succ, L_cons, L_cons, List.getD_cons_succ, Nat.pow_succ]
      generalize 4294967296 ^ j = B at *
      have e1 : B * 4294967296 * o.getD j 0 = 4294967296 * (B * o.getD j 0) := by rw [Nat.mul_comm B, Nat.mul_assoc]
      have e2 : B * 4294967296 * y = 4294967296 * (B * y) := by rw [Nat.mul_comm B, Nat.mul_assoc]
      omega
theorem VL_drop_zero {o : List Nat} {n : Nat} (h : VL (o.drop n) = 0) : o.getD n 0 = 0 ∧ VL (o.drop (n + 1)) = 0 := by
  rcases Nat.lt_or_ge n o.length with h1 | h1
  · rw [List.drop_eq_getElem_cons h1, L_cons] at h
    rw [L_getD_lt h1]
    omega
  · rw [getD_geL h1, List.drop_of_length_le (by omega)]
    exact ⟨rfl, rfl⟩
structure MuO (a b : List Nat) where
  i : Nat
  o : List Nat
  eq : VL o = VL (a.take i) * VL b
  lo : o.length = a.length + b.length
  lg : Lg o
  hz : VL (o.drop (i + b.length)) = 0
  le : i ≤ a.length
structure MuI (a b : List Nat) (i : Nat) where
  k : Nat
  c : Nat
  o : List Nat
  eq : VL o + c * 4294967296 ^ (i + k) = VL (a.take i) * VL b + 4294967296 ^ i * (a.getD i 0 * VL (b.take k))
  lo : o.length = a.length + b.length
  lg : Lg o
  hz : VL (o.drop (i + b.length)) = 0
  hc : c < 4294967296
  le : k ≤ b.length
def MuO.start (a b : List Nat) : MuO a b := ⟨0, List.replicate (a.length + b.length) 0, by simp [VL, L_zeros], by simp, Lg_zeros _, by rw [List.drop_replicate, L_zeros], Nat.zero_le _⟩
def MuI.start {a b : List Nat} (x : MuO a b) : MuI a b x.i := ⟨0, 0, x.o, by simp [VL, x.eq], x.lo, x.lg, x.hz, by decide, Nat.zero_le _⟩
def MuI.s {a b : List Nat} {i : Nat} (x : MuI a b i) : Nat := x.c + a.getD i 0 * b.getD x.k 0 + x.o.getD (i + x.k) 0
theorem mul_lt32 {x y : Nat} (hx : x < 4294967296) (hy : y < 4294967296) : x * y ≤ 18446744065119617025 := Nat.mul_le_mul (show x ≤ 4294967295 by omega) (show y ≤ 4294967295 by omega)
theorem MuI.s_lt {a b : List Nat} {i : Nat} (x : MuI a b i) (ha : Lg a) (hb : Lg b) : x.s < 18446744073709551616 := by
  have h1 := mul_lt32 (lg_at ha i) (lg_at hb x.k)
  have h2 := lg_at x.lg (i + x.k)
  have h3 := x.hc
  unfold MuI.s
  omega
theorem mul_step {a b o : List Nat} {i k c s : Nat} (h : VL o + c * 4294967296 ^ (i + k) = VL (a.take i) * VL b + 4294967296 ^ i * (a.getD i 0 * VL (b.take k))) (hj : i + k < o.length) (hs : s = c + a.getD i 0 * b.getD k 0 + o.getD (i + k) 0) :
    VL (o.set (i + k) (s % 4294967296)) + s / 4294967296 * 4294967296 ^ (i + (k + 1)) = VL (a.take i) * VL b + 4294967296 ^ i * (a.getD i 0 * VL (b.take (k + 1))) := by
  have h1 := VL_set (y := s % 4294967296) hj
  have e0 : 4294967296 ^ i * (a.getD i 0 * VL (b.take (k + 1))) = 4294967296 ^ i * (a.getD i 0 * VL (b.take k)) + 4294967296 ^ (i + k) * (a.getD i 0 * b.getD k 0) := by
    rw [VL_take_one b, Nat.mul_add, Nat.mul_add, Nat.pow_add]
    congr 1
    rw [Nat.mul_assoc]
    congr 1
    rw [← Nat.mul_assoc, ← Nat.mul_assoc, Nat.mul_comm (a.getD i 0)]
  rw [e0, ← Nat.add_assoc i k 1, Nat.pow_succ]
  generalize 4294967296 ^ (i + k) = B at *
  generalize 4294967296 ^ i * (a.getD i 0 * VL (b.take k)) = R at *
  generalize VL (a.take i) * VL b = Q at *
  generalize a.getD i 0 * b.getD k 0 = M at *
  have e : s = 4294967296 * (s / 4294967296) + s % 4294967296 := (Nat.div_add_mod s 4294967296).symm
  have e2 : B * s = B * (4294967296 * (s / 4294967296)) + B * (s % 4294967296) := by rw [← Nat.mul_add, ← e]
  have e3 : B * s = B * c + B * M + B * o.getD (i + k) 0 := by rw [hs, Nat.mul_add, Nat.mul_add]
  have e4 : s / 4294967296 * (B * 4294967296) = B * (4294967296 * (s / 4294967296)) := by rw [Nat.mul_comm, Nat.mul_assoc]
  have e5 : c * B = B * c := Nat.mul_comm _ _
  omega
def MuI.next {a b : List Nat} {i : Nat} (x : MuI a b i) (ha : Lg a) (hb : Lg b) (hi : i < a.length) (h : x.k < b.length) : MuI a b i := ⟨x.k + 1, x.s / 4294967296, x.o.set (i + x.k) (x.s % 4294967296), mul_step x.eq (by rw [x.lo]; omega) rfl, by rw [List.length_set, x.lo], x.lg.set _ (Nat.mod_lt _ (by decide)), by rw [List.drop_set_of_lt (by omega)]; exact x.hz, by have := x.s_lt ha hb; omega, h⟩
def MuI.fin {a b : List Nat} {i : Nat} (x : MuI a b i) (hi : i < a.length) (h : b.length ≤ x.k) : MuO a b := ⟨i + 1, x.o.set (i + b.length) x.c, by
  have hk := x.le
  have e : x.k = b.length := by omega
  have h1 := x.eq
  have h2 := VL_set (o := x.o) (j := i + b.length) (y := x.c) (by rw [x.lo]; omega)
  rw [(VL_drop_zero x.hz).1] at h2
  rw [e, List.take_of_length_le (Nat.le_refl _)] at h1
  rw [VL_take_one a, Nat.add_mul]
  have e5 : x.c * 4294967296 ^ (i + b.length) = 4294967296 ^ (i + b.length) * x.c := Nat.mul_comm _ _
  rw [Nat.mul_assoc]
  omega, by rw [List.length_set, x.lo], x.lg.set _ x.hc, by
  rw [List.drop_set_of_lt (by omega), show i + 1 + b.length = i + b.length + 1 by omega]
  exact (VL_drop_zero x.hz).2, hi⟩
theorem MuO.fin {a b : List Nat} (x : MuO a b) (h : a.length ≤ x.i) : VL x.o = VL a * VL b := by rw [x.eq, List.take_of_length_le h]
structure Sho (a : List Nat) (d : Nat) where
  k : Nat
  r : Nat
  o : List Nat
  eq : VL (o.drop k) * d + r = VL (a.drop k)
  lo : o.length = a.length
  lg : Lg o
  hr : r < d
  le : k ≤ a.length
def Sho.start (a : List Nat) {d : Nat} (h : 0 < d) : Sho a d := ⟨a.length, 0, List.replicate a.length 0, by rw [List.drop_replicate, Nat.sub_self, List.drop_of_length_le (Nat.le_refl _)]; simp [VL], by simp, Lg_zeros _, h, Nat.le_refl _⟩
def Sho.s {a : List Nat} {d : Nat} (x : Sho a d) : Nat := x.r * 4294967296 + a.getD (x.k - 1) 0
theorem Sho.s_lt {a : List Nat} {d : Nat} (x : Sho a d) (ha : Lg a) (hd : d < 4294967296) : x.s / d < 4294967296 := by
  have h1 := lg_at ha (x.k - 1)
  have h2 := x.hr
  rw [Nat.div_lt_iff_lt_mul (by omega)]
  unfold Sho.s
  have : x.r * 4294967296 + 4294967296 ≤ d * 4294967296 := by omega
  omega
def Sho.next {a : List Nat} {d : Nat} (x : Sho a d) (ha : Lg a) (hd : d < 4294967296) (h : 0 < x.k) : Sho a d := ⟨x.k - 1, x.s % d, x.o.set (x.k - 1) (x.s / d), by
  have hk := x.le
  have hl := x.lo
  have h1 := x.eq
  have e := Nat.div_add_mod x.s d
  rw [List.drop_eq_getElem_cons (by rw [List.length_set]; omega), List.drop_eq_getElem_cons (l := a) (by omega), L_cons, L_cons, List.getElem_set_self, show x.k - 1 + 1 = x.k by omega, List.drop_set_of_lt (by omega), ← h1, ← L_getD_lt (by omega : x.k - 1 < a.length)]
  rw [Nat.add_mul, Nat.mul_comm (x.s / d), Nat.mul_assoc]
  rw [Nat.mul_add]
  unfold Sho.s at *
  generalize VL (x.o.drop x.k) * d = Q at *
  omega, by rw [List.length_set, x.lo], x.lg.set _ (x.s_lt ha hd), Nat.mod_lt _ (by have := x.hr; omega), by have := x.le; omega⟩
theorem Sho.fin {a : List Nat} {d : Nat} (x : Sho a d) (h : x.k = 0) : VL x.o = VL a / d ∧ x.r = VL a % d := by
  have h1 := x.eq
  have h2 := x.hr
  rw [h, List.drop_zero, List.drop_zero] at h1
  have hd : 0 < d := by omega
  rw [← h1]
  constructor
  · rw [Nat.mul_comm, Nat.mul_add_div hd, Nat.div_eq_of_lt h2, Nat.add_zero]
  · rw [Nat.mul_comm, Nat.mul_add_mod, Nat.mod_eq_of_lt h2]
end Go.Proofs.YtnkjenaanjnihaaGreatDoor
