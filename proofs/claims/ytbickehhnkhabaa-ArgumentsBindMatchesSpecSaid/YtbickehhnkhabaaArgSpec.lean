/- What Check answers, in plain terms, and that the document's order of tests answers the same. -/
import Derived.Test.YtbickehhnkhabaaArg3
namespace Go.Proofs.Ytbickehhnkhabaa

def strE (s : ByteArray) : Bool := s.toList.isEmpty
def nextK (ps : List Par) (i : Nat) : Int := (ps.map Par.k).getD (i + 1) 0
def lastAt (ps : List Par) (i : Nat) : Int := if i = 0 then 0 else (ps.map Par.k).getD (i - 1) 0
def optAt (ps : List Par) (i : Nat) : Bool := (ps.take i).any fun q => decide (0 < q.n)

/-- The fault of the parameter p at place i, behind one of kind last; opt: has an earlier one a default? -/
noncomputable def codeAt (ps : List Par) (i : Nat) (p : Par) (last : Int) (opt : Bool) : Int :=
  if p.k < 0 ∨ 3 < p.k then 5
  else if nameOk p.s = false ∧ (p.k ≠ 1 ∨ strE p.s = false) then 7
  else if strE p.s = false ∧ hasName (ps.take i) p.s = true then 8
  else if 1 < p.n ∨ (0 < p.n ∧ (p.k = 1 ∨ p.k = 3)) then 6
  else if p.k < last ∨ (p.k = last ∧ (last = 1 ∨ last = 3)) ∨ (p.k = 2 ∧ last = 0) then 11
  else if p.k = 1 ∧ strE p.s = true ∧ (i + 1 = ps.length ∨ nextK ps i ≠ 2) then 11
  else if p.k = 0 ∧ opt = true ∧ p.n = 0 then 11
  else 0

/-- The same in the document's order of tests. -/
noncomputable def refAt (ps : List Par) (i : Nat) (p : Par) (before : Int) (twice dft : Bool) : Int :=
  if p.k ≠ 0 ∧ p.k ≠ 2 ∧ p.k ≠ 1 ∧ p.k ≠ 3 then 5
  else if ¬ (p.k = 1 ∧ strE p.s = true) ∧ nameOk p.s = false then 7
  else if twice = true then 8
  else if 1 < p.n ∨ (p.n = 1 ∧ (p.k = 1 ∨ p.k = 3)) then 6
  else if p.k < before ∨ ((p.k = 1 ∨ p.k = 3) ∧ p.k = before) ∨ (p.k = 2 ∧ before ≤ 0) ∨ ((p.k = 1 ∧ strE p.s = true) ∧ ¬ (i + 1 < ps.length ∧ nextK ps i = 2)) ∨ (p.k = 0 ∧ dft = true ∧ p.n = 0) then 11
  else 0

theorem ref_eq (ps : List Par) (i : Nat) (p : Par) (before last : Int) (opt : Bool) (hi : i < ps.length) (hb : (i = 0 ∧ before = -1 ∧ last = 0) ∨ (0 ≤ last ∧ before = last)) :
    refAt ps i p before (hasName (ps.take i) p.s && !strE p.s) opt = codeAt ps i p last opt := by
  unfold refAt codeAt
  generalize strE p.s = e
  generalize nameOk p.s = o
  generalize hasName (ps.take i) p.s = h
  generalize nextK ps i = nk
  generalize p.k = k
  generalize p.n = n
  by_cases h5 : k < 0 ∨ 3 < k
  · rw [if_pos (by omega), if_pos h5]
  · rw [if_neg (by omega), if_neg h5]
    cases e <;> cases o <;> cases h <;> cases opt <;> simp <;> (repeat' split) <;> omega

noncomputable def codeI (ps : List Par) (i : Nat) : Int := match ps[i]? with
  | some p => codeAt ps i p (lastAt ps i) (optAt ps i)
  | none => 0

theorem codeI_at (ps : List Par) (i : Nat) (h : i < ps.length) : codeI ps i = codeAt ps i ps[i] (lastAt ps i) (optAt ps i) := by
  unfold codeI; rw [List.getElem?_eq_getElem h]

/-- The place of the first fault, or -1. -/
noncomputable def badP (ps : List Par) (k : Nat) : Int := firstFrom (fun i => codeI ps i != 0) ps.length k
noncomputable def parF (ps : List Par) : Int × Int := if 12 < ps.length then (2, -1) else if badP ps 0 = -1 then (0, 0) else (codeI ps (badP ps 0).toNat, badP ps 0)

theorem badP_yes {ps : List Par} {k : Nat} (h : k < ps.length) (hc : codeI ps k ≠ 0) : badP ps k = k := firstFrom_yes h (by simpa using hc)
theorem badP_no {ps : List Par} {k : Nat} (h : k < ps.length) (hc : codeI ps k = 0) : badP ps k = badP ps (k + 1) := firstFrom_no h (by simpa using hc)
theorem badP_end {ps : List Par} {k : Nat} (h : ¬ k < ps.length) : badP ps k = -1 := firstFrom_end h

theorem parF_many {ps : List Par} (h : 12 < ps.length) : parF ps = (2, -1) := by unfold parF; rw [if_pos h]
theorem parF_bad {ps : List Par} {k : Nat} (h : ¬ 12 < ps.length) (hb : badP ps 0 = k) : parF ps = (codeI ps k, (k : Int)) := by
  unfold parF; rw [if_neg h, if_neg (by omega), hb, Int.toNat_natCast]
theorem parF_good {ps : List Par} (h : ¬ 12 < ps.length) (hb : badP ps 0 = -1) : parF ps = (0, 0) := by
  unfold parF; rw [if_neg h, if_pos hb]

theorem lastAt_succ (ps : List Par) (i : Nat) (h : i < ps.length) : lastAt ps (i + 1) = ps[i].k := by
  unfold lastAt; rw [if_neg (by omega)]; simp [List.getD, h]
theorem optAt_succ (ps : List Par) (i : Nat) (h : i < ps.length) : optAt ps (i + 1) = (optAt ps i || decide (0 < ps[i].n)) := by
  unfold optAt; rw [List.take_succ_eq_append_getElem h, List.any_append]; simp
theorem hasName_succ (ps : List Par) (s : ByteArray) (i : Nat) (h : i < ps.length) : hasName (ps.take (i + 1)) s = (hasName (ps.take i) s || (ps[i].s.toList == s.toList)) := by
  unfold hasName; rw [List.take_succ_eq_append_getElem h, List.any_append]; simp
theorem kind_of_good {ps : List Par} {i : Nat} (h : i < ps.length) (hc : codeI ps i = 0) : 0 ≤ ps[i].k ∧ ps[i].k ≤ 3 := by
  rw [codeI_at ps i h] at hc
  unfold codeAt at hc
  split at hc
  · omega
  · omega
end Go.Proofs.Ytbickehhnkhabaa
