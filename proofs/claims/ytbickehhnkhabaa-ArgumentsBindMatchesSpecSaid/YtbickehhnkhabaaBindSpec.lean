/- What Bind and the document's Bound answer, in plain terms, and that they answer the same. -/
import Derived.Test.YtbickehhnkhabaaArgSpec
namespace Go.Proofs.Ytbickehhnkhabaa

theorem eqB {a b : ByteArray} : (a.toList == b.toList) = true ↔ a = b := by
  rw [beq_iff_eq, ByteArray.toList_eq, ByteArray.toList_eq]
  constructor
  · intro h
    cases a; cases b
    simp only [ByteArray.mk.injEq]
    exact Array.toList_inj.1 h
  · intro h; rw [h]
theorem eqB_ne {a b : ByteArray} : (a.toList == b.toList) = false ↔ a ≠ b := by
  rw [Ne, ← eqB, Bool.not_eq_true]

/-- How a binding fails. -/
inductive BMsg where
  | many
  | two (s : ByteArray)
  | unknown (s : ByteArray)
  | needs (s : ByteArray)

section
variable {V : Type} (u : V) (isU : V → Bool)

/-- Can the parameter be given by its name? -/
def own (p : Par) : Bool := p.k == 0 || p.k == 2
def sameN (nm : ByteArray) (s : ByteArray) : Bool := s.toList == nm.toList
def hasPairs (ps : List Par) : Bool := ps.any fun p => p.k == 3
def hasStar (ps : List Par) : Bool := ps.any fun p => p.k == 1 && !strE p.s
def plainN (ps : List Par) : Nat := (ps.filter fun p => p.k == 0).length
def leadN (ps : List Par) : Nat := (ps.takeWhile fun p => p.k == 0).length
def atN (ps : List Par) (nm : ByteArray) : Option Nat := ps.findIdx? fun p => sameN nm p.s && own p

/-- A binding under way. -/
structure BSt (V : Type) where
  vals : List V
  names : List ByteArray
  named : List V

/-- One named argument, as the code binds it. -/
def nameStep (ps : List Par) (st : BSt V) (nm : ByteArray) (v : V) : BMsg ⊕ BSt V :=
  match atN ps nm with
  | some k => if isU (st.vals.getD k u) = false ∨ st.names.any (sameN nm) = true then .inl (.two nm) else .inr { st with vals := st.vals.set k v }
  | none => if st.names.any (sameN nm) = true then .inl (.two nm) else if hasPairs ps = true then .inr { st with names := st.names ++ [nm], named := st.named ++ [v] } else .inl (.unknown nm)

def namesGo (ps : List Par) (st : BSt V) : List (ByteArray × V) → BMsg ⊕ BSt V
  | [] => .inr st
  | (nm, v) :: l => match nameStep u isU ps st nm v with
    | .inl m => .inl m
    | .inr st' => namesGo ps st' l

/-- The parameters without a value get their defaults. -/
def restGo (i : Nat) (vals : List V) (ds : List V) : List Par → BMsg ⊕ List V
  | [] => .inr vals
  | p :: ps => if p.k = 1 ∨ p.k = 3 ∨ isU (vals.getD i u) = false then restGo (i + 1) vals (ds.drop p.n) ps
    else if p.n = 0 then .inl (.needs p.s) else restGo (i + 1) (vals.set i (ds.getD 0 u)) (ds.drop p.n) ps

def startV (ps : List Par) (l : List V) : List V := l.take (min (leadN ps) l.length) ++ List.replicate (ps.length - min (leadN ps) l.length) u
def startRest (ps : List Par) (l : List V) : List V := l.drop (min (leadN ps) l.length)
/-- Is there a named star parameter? As the code asks it: of the first star parameter. -/
def starOk (ps : List Par) : Bool := match ps.find? fun p => p.k == 1 with
  | some p => !strE p.s
  | none => false

def bindF (ps : List Par) (ds : List V) (l : List V) (nv : List (ByteArray × V)) : BMsg ⊕ (BSt V × List V) :=
  if startRest ps l ≠ [] ∧ starOk ps = false then .inl .many
  else match namesGo u isU ps ⟨startV u ps l, [], []⟩ nv with
    | .inl m => .inl m
    | .inr st => match restGo u isU 0 st.vals ds ps with
      | .inl m => .inl m
      | .inr vals => .inr ({ st with vals := vals }, startRest ps l)

/-- The document's named arguments: the names that have a value, the values, the pairs. -/
structure RSt (V : Type) where
  ns : List ByteArray
  gs : List V
  names : List ByteArray
  named : List V

def refStep (ps : List Par) (st : RSt V) (nm : ByteArray) (v : V) : BMsg ⊕ RSt V :=
  if st.ns.any (sameN nm) = true then .inl (.two nm)
  else if ps.any (fun p => sameN nm p.s && own p) = true then .inr { st with ns := st.ns ++ [nm], gs := st.gs ++ [v] }
  else if hasPairs ps = true then .inr ⟨st.ns ++ [nm], st.gs ++ [v], st.names ++ [nm], st.named ++ [v]⟩
  else .inl (.unknown nm)

def refGo (ps : List Par) (st : RSt V) : List (ByteArray × V) → BMsg ⊕ RSt V
  | [] => .inr st
  | (nm, v) :: l => match refStep ps st nm v with
    | .inl m => .inl m
    | .inr st' => refGo ps st' l

/-- The document's last loop. -/
def outGo (ns : List ByteArray) (gs : List V) (next : Nat) (ds : List V) : List Par → BMsg ⊕ List V
  | [] => .inr []
  | p :: ps =>
    let r : BMsg ⊕ V := if own p = true then
        match ns.findIdx? (sameN p.s) with
        | some k => .inr (gs.getD k u)
        | none => if 0 < p.n then .inr (ds.getD next u) else .inl (.needs p.s)
      else .inr u
    match r with
    | .inl m => .inl m
    | .inr v => match outGo ns gs (next + p.n) ds ps with
      | .inl m => .inl m
      | .inr vs => .inr (v :: vs)

def refF (ps : List Par) (ds : List V) (l : List V) (nv : List (ByteArray × V)) : BMsg ⊕ (BSt V × List V) :=
  if plainN ps < l.length ∧ hasStar ps = false then .inl .many
  else match refGo ps ⟨(ps.take (min (plainN ps) l.length)).map Par.s, l.take (min (plainN ps) l.length), [], []⟩ nv with
    | .inl m => .inl m
    | .inr st => match outGo u st.ns st.gs 0 ds ps with
      | .inl m => .inl m
      | .inr vals => .inr (⟨vals, st.names, st.named⟩, l.drop (plainN ps))

end

/-- What Check leaves to know of parameters. -/
structure GoodPs (ps : List Par) : Prop where
  kind : ∀ i (h : i < ps.length), 0 ≤ ps[i].k ∧ ps[i].k ≤ 3
  mono : ∀ i j (h : j < ps.length) (hij : i < j), (ps[i]'(by omega)).k ≤ ps[j].k ∧ (ps[j].k = 1 ∨ ps[j].k = 3 → (ps[i]'(by omega)).k < ps[j].k)
  ownNe : ∀ i (h : i < ps.length), own ps[i] = true → strE ps[i].s = false
  diff : ∀ i j (h : j < ps.length) (hij : i < j), strE ps[j].s = false → (ps[i]'(by omega)).s ≠ ps[j].s

theorem good_of (ps : List Par) (hg : badP ps 0 = -1) : GoodPs ps := by
  have hz : ∀ i, i < ps.length → codeI ps i = 0 := by
    intro i hi
    rcases firstFrom_spec (fun i => codeI ps i != 0) ps.length 0 with ⟨hf, hall⟩ | ⟨i0, _, hi0, hf, hyes, hall⟩
    · have := hall i (Nat.zero_le _) hi
      simpa using this
    · unfold badP at hg; omega
  have hcode : ∀ i (h : i < ps.length), codeAt ps i ps[i] (lastAt ps i) (optAt ps i) = 0 := fun i h => by rw [← codeI_at]; exact hz i h
  have hkind : ∀ i (h : i < ps.length), 0 ≤ ps[i].k ∧ ps[i].k ≤ 3 := fun i h => kind_of_good h (hz i h)
  have hstep : ∀ i (h : i + 1 < ps.length), (ps[i]'(by omega)).k ≤ ps[i + 1].k ∧ (ps[i + 1].k = 1 ∨ ps[i + 1].k = 3 → (ps[i]'(by omega)).k < ps[i + 1].k) := by
    intro i h
    have h1 := hcode (i + 1) h
    rw [lastAt_succ ps i (by omega)] at h1
    unfold codeAt at h1
    repeat' (split at h1 <;> try omega)
    all_goals omega
  have hmono : ∀ d i (h : i + d + 1 < ps.length), (ps[i]'(by omega)).k ≤ ps[i + d + 1].k ∧ (ps[i + d + 1].k = 1 ∨ ps[i + d + 1].k = 3 → (ps[i]'(by omega)).k < ps[i + d + 1].k) := by
    intro d
    induction d with
    | zero => intro i h; exact hstep i h
    | succ d ih =>
      intro i h
      have h1 := ih i (by omega)
      have h2 := hstep (i + d + 1) (by omega)
      have e : i + (d + 1) + 1 = i + d + 1 + 1 := by omega
      simp only [e]
      omega
  refine ⟨hkind, fun i j h hij => ?_, fun i h ho => ?_, fun i j h hij hne => ?_⟩
  · obtain ⟨d, rfl⟩ : ∃ d, j = i + d + 1 := ⟨j - i - 1, by omega⟩
    exact hmono d i h
  · have h1 := hcode i h
    unfold codeAt at h1
    have hk1 : ps[i].k ≠ 1 := by
      unfold own at ho; simp at ho; omega
    by_cases hn : nameOk ps[i].s = true
    · unfold strE
      by_cases hN : NameIs ps[i].s
      · exact empty_no (by have := hN.1; omega)
      · rw [nameOk_no hN] at hn; cases hn
    · rw [if_neg (by have := hkind i h; omega), if_pos ⟨by simpa using hn, .inl hk1⟩] at h1
      omega
  · have h1 := hcode j h
    intro he
    have hh : hasName (ps.take j) ps[j].s = true := by
      unfold hasName
      rw [List.any_eq_true]
      exact ⟨ps[i]'(by omega), by rw [List.mem_take_iff_getElem]; exact ⟨i, by omega, rfl⟩, eqB.2 he⟩
    unfold codeAt at h1
    rw [if_neg (by have := hkind j h; omega)] at h1
    split at h1
    · omega
    · rw [if_pos ⟨hne, hh⟩] at h1
      omega
end Go.Proofs.Ytbickehhnkhabaa
