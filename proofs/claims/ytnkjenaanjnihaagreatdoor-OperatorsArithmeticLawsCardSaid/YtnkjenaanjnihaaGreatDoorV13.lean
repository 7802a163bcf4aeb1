/- Part 13 of the proof. -/
import Derived.Test.YtnkjenaanjnihaaGreatDoorV12


/- Limbs: digits to the base 2^32, and how they are taken apart and put together. Plain law. -/
namespace Go.Proofs.YtnkjenaanjnihaaGreatDoor
def VL : List Nat → Nat
  | [] => 0
  | d :: l => d + 4294967296 * VL l
def Lg (l : List Nat) : Prop := ∀ d ∈ l, d < 4294967296
def lim (n : Nat) : List Nat := if n = 0 then [] else (n % 4294967296) :: lim (n / 4294967296)
decreasing_by omega
theorem lim_zero : lim 0 = [] := by rw [lim]; simp
theorem lim_pos {n : Nat} (h : n ≠ 0) : lim n = (n % 4294967296) :: lim (n / 4294967296) := by rw [lim]; simp [h]
theorem L_nil : VL [] = 0 := rfl
theorem L_cons (d : Nat) (l : List Nat) : VL (d :: l) = d + 4294967296 * VL l := rfl
theorem L_append (a b : List Nat) : VL (a ++ b) = VL a + 4294967296 ^ a.length * VL b := by
  induction a with
  | nil => simp [L_nil]
  | cons d a ih => rw [List.cons_append, L_cons, ih, L_cons, List.length_cons, Nat.pow_succ, Nat.mul_add]; rw [Nat.add_assoc]; congr 2; rw [← Nat.mul_assoc]; congr 1; exact Nat.mul_comm _ _
theorem L_snoc (a : List Nat) (d : Nat) : VL (a ++ [d]) = VL a + 4294967296 ^ a.length * d := by rw [L_append, L_cons, L_nil]; simp
theorem Lg.nil : Lg [] := fun _ h => by cases h
theorem Lg.snoc {a : List Nat} (h : Lg a) {d : Nat} (h1 : d < 4294967296) : Lg (a ++ [d]) := fun x hx => by
  rcases List.mem_append.1 hx with hx | hx
  · exact h x hx
  · rw [List.mem_singleton.1 hx]; exact h1
theorem Lg.take {a : List Nat} (h : Lg a) (n : Nat) : Lg (a.take n) := fun x hx => h x (List.mem_of_mem_take hx)
theorem Lg.at {a : List Nat} (h : Lg a) {i : Nat} (hi : i < a.length) : a[i] < 4294967296 := h _ (List.getElem_mem hi)
theorem Lg.set {a : List Nat} (h : Lg a) (i : Nat) {d : Nat} (h1 : d < 4294967296) : Lg (a.set i d) := fun x hx => by
  rcases List.mem_or_eq_of_mem_set hx with hx | rfl
  · exact h x hx
  · exact h1
theorem L_lt {l : List Nat} (h : Lg l) : VL l < 4294967296 ^ l.length := by
  induction l with
  | nil => simp [L_nil]
  | cons d l ih =>
    have h1 := h d (List.mem_cons_self ..)
    have h2 := ih (fun x hx => h x (List.mem_cons_of_mem _ hx))
    rw [L_cons, List.length_cons, Nat.pow_succ]
    omega
theorem L_take_succ {l : List Nat} {m : Nat} (h : m < l.length) : VL (l.take (m + 1)) = VL (l.take m) + 4294967296 ^ m * l[m] := by
  rw [List.take_succ_eq_append_getElem h, L_snoc, List.length_take, Nat.min_eq_left (Nat.le_of_lt h)]
theorem L_take_drop (l : List Nat) (m : Nat) (h : m ≤ l.length) : VL l = VL (l.take m) + 4294967296 ^ m * VL (l.drop m) := by
  have e := L_append (l.take m) (l.drop m)
  rw [List.take_append_drop, List.length_take, Nat.min_eq_left h] at e
  exact e
theorem L_zeros (n : Nat) : VL (List.replicate n 0) = 0 := by
  induction n with
  | zero => rfl
  | succ n ih => rw [List.replicate_succ, L_cons, ih]
theorem Lg_zeros (n : Nat) : Lg (List.replicate n 0) := fun x hx => by rw [List.eq_of_mem_replicate hx]; decide
theorem lim_Dg (n : Nat) : Lg (lim n) := by
  induction n using Nat.strongRecOn with
  | _ n ih =>
    by_cases h : n = 0
    · subst h; rw [lim_zero]; exact Lg.nil
    · rw [lim_pos h]
      intro x hx
      rcases List.mem_cons.1 hx with rfl | hx
      · omega
      · exact ih (n / 4294967296) (by omega) x hx
theorem L_dig (n : Nat) : VL (lim n) = n := by
  induction n using Nat.strongRecOn with
  | _ n ih =>
    by_cases h : n = 0
    · subst h; rw [lim_zero]; rfl
    · rw [lim_pos h, L_cons, ih (n / 4294967296) (by omega)]; omega
def NoLeadL (l : List Nat) : Prop := ∀ h : l ≠ [], l.getLast h ≠ 0
theorem lim_noLead (n : Nat) : NoLeadL (lim n) := by
  induction n using Nat.strongRecOn with
  | _ n ih =>
    by_cases h : n = 0
    · subst h; rw [lim_zero]; exact fun h => absurd rfl h
    · rw [lim_pos h]
      intro hne
      by_cases h2 : n / 4294967296 = 0
      · simp only [h2, lim_zero, List.getLast_singleton]
        omega
      · have h3 : lim (n / 4294967296) ≠ [] := by rw [lim_pos h2]; simp
        rw [List.getLast_cons h3]
        exact ih (n / 4294967296) (by omega) h3
theorem lim_V {l : List Nat} (h : Lg l) (hn : NoLeadL l) : lim (VL l) = l := by
  induction l with
  | nil => exact lim_zero
  | cons d l ih =>
    have h1 := h d (List.mem_cons_self ..)
    have hl : Lg l := fun x hx => h x (List.mem_cons_of_mem _ hx)
    have hnl : NoLeadL l := fun hne => by
      have := hn (by simp)
      rw [List.getLast_cons hne] at this
      exact this
    have h0 : VL (d :: l) ≠ 0 := by
      rw [L_cons]
      intro e
      have hd : d = 0 := by omega
      have hv : VL l = 0 := by omega
      cases l with
      | nil => exact hn (by simp) (by simpa using hd)
      | cons x l =>
        have := ih hl hnl
        rw [hv, lim_zero] at this
        cases this
    rw [lim_pos h0, L_cons]
    have e1 : (d + 4294967296 * VL l) % 4294967296 = d := by omega
    have e2 : (d + 4294967296 * VL l) / 4294967296 = VL l := by omega
    rw [e1, e2, ih hl hnl]
theorem lim_length_le {n k : Nat} (h : n < 4294967296 ^ k) : (lim n).length ≤ k := by
  induction k generalizing n with
  | zero => have : n = 0 := by simpa using h
            subst this; rw [lim_zero]; simp
  | succ k ih =>
    by_cases h0 : n = 0
    · subst h0; rw [lim_zero]; simp
    · rw [lim_pos h0, List.length_cons]
      have := ih (n := n / 4294967296) (by rw [Nat.pow_succ] at h; omega)
      omega
theorem lim_lt (n : Nat) : n < 4294967296 ^ (lim n).length := by
  have := L_lt (lim_Dg n)
  rwa [L_dig] at this
theorem lim_ge {n : Nat} (h : n ≠ 0) : 4294967296 ^ ((lim n).length - 1) ≤ n := by
  rcases Nat.lt_or_ge n (4294967296 ^ ((lim n).length - 1)) with h1 | h1
  · have h2 := lim_length_le h1
    have : (lim n).length ≠ 0 := by rw [lim_pos h]; simp
    omega
  · exact h1
theorem L_getD_lt {l : List Nat} {i : Nat} (h : i < l.length) : l.getD i 0 = l[i] := by rw [List.getD_eq_getElem?_getD, List.getElem?_eq_getElem h]; rfl
theorem of_step {l o : List Nat} {i : Nat} (h : V o = VL (l.take i)) (ho : o.length = 2 * i) (hi : i < l.length) : V (o ++ [l[i] % 65536, l[i] / 65536]) = VL (l.take (i + 1)) := by
  rw [V_append, h, ho, L_take_succ hi, V_cons, V_cons, V_nil]
  have e : l[i] % 65536 + 65536 * (l[i] / 65536 + 65536 * 0) = l[i] := by omega
  rw [e, Nat.pow_mul]
theorem of_Dg {o : List Nat} (h : Dg o) {x : Nat} (hx : x < 4294967296) : Dg (o ++ [x % 65536, x / 65536]) := fun y hy => by
  rcases List.mem_append.1 hy with hy | hy
  · exact h y hy
  · simp only [List.mem_cons, List.not_mem_nil, or_false] at hy
    rcases hy with rfl | rfl <;> omega
def ZI (b : Bool) (n : Nat) : Int := if b then -(n : Int) else n
end Go.Proofs.YtnkjenaanjnihaaGreatDoor


/- The evaluator: ways that come together. Nothing here speaks of the program. -/
namespace Go.Proofs.YtnkjenaanjnihaaGreatDoor
open Go.RowKit
section
variable {P : Program} {b : Ba}
def exJ {ι : Type} (I : ι → DS) (K : Exit → DS → Prop) (ex : Exit) (S : DS) : Prop := match ex with
  | .normal => ∃ i, LeD S (I i)
  | e => K e S
theorem exJ_normal {ι : Type} {I : ι → DS} {K : Exit → DS → Prop} {S : DS} (i : ι) (h : LeD S (I i)) : exJ I K .normal S := ⟨i, h⟩
theorem ev_joinK {ι : Type} (ks os : List Nat) (N : Nat) (chg : ι → List (Nat × D)) (ochg : ι → List (Nat × DOwn)) {x y : Code} {tm : List (Nat × D)} {ow : List (Nat × DOwn)} {nx : Nat} {K : Exit → DS → Prop}
    (h : keepK ks tm fun base => keepO os ow fun ob => Ev P b x ⟨tm, ow, nx⟩ (exJ (fun i => ⟨chg i ++ base, ochg i ++ ob, N⟩) K) ∧ ∀ i, Ev P b y ⟨chg i ++ base, ochg i ++ ob, N⟩ K) : Ev P b (.seq x y) ⟨tm, ow, nx⟩ K := by
  obtain ⟨base, h1⟩ := keepK_get h
  obtain ⟨ob, h2, h3⟩ := keepO_get h1
  refine ev_seq ?_
  intro w s g a Q hr hK
  refine h2 w s g a Q hr fun ex w' s' g' a' S' h4 h5 => hK ex w' s' g' a' S' h4 ?_
  cases ex with
  | normal =>
    obtain ⟨i, hi⟩ := h5
    exact ev_le _ hi (h3 i)
  | _ => exact h5
end
def thwD (k : Nat) : D → D
  | .own k' sz rows => match Nat.beq k' k with
    | true => match rows with
      | [] => .mo k' 0
      | r :: l => .own k' sz (r :: l)
    | false => .own k' sz rows
  | d => d
def thwL (k : Nat) : List D → List D
  | [] => []
  | d :: l => thwD k d :: thwL k l
def thwT (k : Nat) : List (Nat × D) → List (Nat × D)
  | [] => []
  | (t, d) :: l => (t, thwD k d) :: thwT k l
def thwO (k : Nat) (e : TypeId) (sz : Nat) : List (Nat × DOwn) → List (Nat × DOwn)
  | [] => []
  | (j, c) :: l => (match Nat.beq j k with
    | true => (j, .mrow e sz (.lst []))
    | false => match c with
      | .box t cs => (j, .box t (thwL k cs))
      | c => (j, c)) :: thwO k e sz l
theorem thwT_fnd {k : Nat} : ∀ {l : List (Nat × D)} {t : Nat}, fnd1 t (thwT k l) = (fnd1 t l).map (thwD k)
  | [], _ => rfl
  | (u, d) :: l, t => by
    show fnd1 t ((u, thwD k d) :: thwT k l) = _
    rw [fnd1_cons, fnd1_cons]
    by_cases h : u = t
    · simp [h]
    · rw [if_neg h, if_neg h]; exact thwT_fnd
theorem thwD_ok {w : World} {s : Sb} {g : Gh} {k : Nat} (hmo : ∀ v, g.gn k 0 = some v → (TV.mo k 0).P w s g v) {d : D} {v : Value} (hv : d.tv.P w s g v) : (thwD k d).tv.P w s g v := by
  cases d with
  | own k' sz rows =>
    show (match Nat.beq k' k with | true => (match rows with | [] => D.mo k' 0 | r :: l => D.own k' sz (r :: l)) | false => D.own k' sz rows).tv.P w s g v
    cases hb : Nat.beq k' k with
    | false => exact hv
    | true =>
      have e := Nat.eq_of_beq_eq_true hb
      subst e
      cases rows with
      | nil =>
        rw [D.tv, TV.P] at hv
        show (D.mo k' 0).tv.P w s g v
        rw [D.tv]
        exact hmo v hv.2
      | cons r l => exact hv
  | _ => exact hv
theorem thwL_ok {w : World} {s : Sb} {g : Gh} {k : Nat} (hmo : ∀ v, g.gn k 0 = some v → (TV.mo k 0).P w s g v) : ∀ {l : List D} {vs : List Value}, AllT w s g (D.tvl l) vs → AllT w s g (D.tvl (thwL k l)) vs
  | [], vs, hv => by cases vs with | nil => rw [thwL, D.tvl]; trivial | cons _ _ => exact hv.elim
  | d :: l, [], hv => by rw [D.tvl] at hv; exact hv.elim
  | d :: l, v :: vs, hv => by
    rw [D.tvl] at hv
    rw [thwL, D.tvl]
    exact ⟨thwD_ok hmo hv.1, thwL_ok hmo hv.2⟩
theorem thwL_one {k : Nat} : ∀ {l : List D}, (∀ d ∈ D.tvl l, d.one = true) → ∀ d ∈ D.tvl (thwL k l), d.one = true
  | [], _, d, hd => by rw [thwL, D.tvl] at hd; cases hd
  | x :: l, h, d, hd => by
    rw [thwL, D.tvl] at hd
    rw [D.tvl] at h
    rcases List.mem_cons.1 hd with rfl | hd
    · have h1 := h x.tv (by simp)
      cases x with
      | own k' sz rows =>
        show (match Nat.beq k' k with | true => (match rows with | [] => D.mo k' 0 | r :: l => D.own k' sz (r :: l)) | false => D.own k' sz rows).tv.one = true
        cases Nat.beq k' k with
        | false => rfl
        | true => cases rows <;> rfl
      | _ => exact h1
    · exact thwL_one (fun y hy => h y (by simp [hy])) d hd
theorem thwO_fnd {k : Nat} {e : TypeId} {sz : Nat} : ∀ {l : List (Nat × DOwn)} {j : Nat} {c : DOwn}, fnd1 j (thwO k e sz l) = some c → ∃ c0, fnd1 j l = some c0 ∧ ((j = k ∧ c = .mrow e sz (.lst [])) ∨ (j ≠ k ∧ ((∃ t cs, c0 = .box t cs ∧ c = .box t (thwL k cs)) ∨ (c = c0 ∧ ∀ t cs, c0 ≠ .box t cs))))
  | [], _, _, h => by cases h
  | (i, c0) :: l, j, c, h => by
    unfold thwO at h
    have step : ∀ x : DOwn, fnd1 j ((i, x) :: thwO k e sz l) = some c → (i = j ∧ x = c) ∨ (i ≠ j ∧ fnd1 j (thwO k e sz l) = some c) := fun x hx => by
      rw [fnd1_cons] at hx
      by_cases hi : i = j
      · rw [if_pos hi] at hx; exact .inl ⟨hi, Option.some.inj hx⟩
      · rw [if_neg hi] at hx; exact .inr ⟨hi, hx⟩
    have rest : i ≠ j → fnd1 j (thwO k e sz l) = some c → ∃ c0', fnd1 j ((i, c0) :: l) = some c0' ∧ ((j = k ∧ c = .mrow e sz (.lst [])) ∨ (j ≠ k ∧ ((∃ t cs, c0' = .box t cs ∧ c = .box t (thwL k cs)) ∨ (c = c0' ∧ ∀ t cs, c0' ≠ .box t cs)))) := fun hi hx => by
      obtain ⟨c1, h1, h2⟩ := thwO_fnd hx
      exact ⟨c1, by rw [fnd1_cons, if_neg hi]; exact h1, h2⟩
    cases hb : Nat.beq i k with
    | true =>
      rw [hb] at h
      have hik := Nat.eq_of_beq_eq_true hb
      rcases step _ h with ⟨rfl, rfl⟩ | ⟨hi, hx⟩
      · exact ⟨c0, by rw [fnd1_cons]; simp, .inl ⟨hik, rfl⟩⟩
      · exact rest hi hx
    | false =>
      rw [hb] at h
      have hik : i ≠ k := by rintro rfl; rw [Nat.beq_refl] at hb; cases hb
      cases c0 with
      | box t cs =>
        rcases step _ h with ⟨rfl, rfl⟩ | ⟨hi, hx⟩
        · exact ⟨_, by rw [fnd1_cons]; simp, .inr ⟨hik, .inl ⟨t, cs, rfl, rfl⟩⟩⟩
        · exact rest hi hx
      | _ =>
        rcases step _ h with ⟨rfl, rfl⟩ | ⟨hi, hx⟩
        · exact ⟨_, by rw [fnd1_cons]; simp, .inr ⟨hik, .inr ⟨rfl, fun _ _ h => by cases h⟩⟩⟩
        · exact rest hi hx
section
variable {P : Program} {b : Ba}
theorem ev_thaw (k : Nat) {e : TypeId} {sz : Nat} {c : Code} {tm : List (Nat × D)} {ow : List (Nat × DOwn)} {nx : Nat} {K : Exit → DS → Prop} (hk : fnd1 k ow = some (.row e sz 0))
    (h : Ev P b c ⟨thwT k tm, thwO k e sz ow, nx⟩ K) : Ev P b c ⟨tm, ow, nx⟩ K := by
  intro w s g a Q hr hK
  have hk0 : fnd k (ows ow) = some (.row e sz 0) := by rw [fnd_ows, hk]; rfl
  obtain ⟨hok, hblk⟩ := hr.ow k _ hk0
  obtain ⟨hmr, hmo⟩ := hok.thaw
  have howf : ∀ {j : Nat} {c : Own}, fnd j (ows (thwO k e sz ow)) = some c → ∃ c0, fnd j (ows ow) = some c0 ∧ Ok1 w s g j c ∧ blk g j c = blk g j c0 := fun {j c} hj => by
    rw [fnd_ows] at hj
    cases hq : fnd1 j (thwO k e sz ow) with
    | none => rw [hq] at hj; cases hj
    | some d =>
      rw [hq] at hj
      cases hj
      obtain ⟨c0, h1, h2⟩ := thwO_fnd hq
      have h1' : fnd j (ows ow) = some c0.o := by rw [fnd_ows, h1]; rfl
      refine ⟨c0.o, h1', ?_⟩
      rcases h2 with ⟨rfl, rfl⟩ | ⟨hne, ⟨t, cs, rfl, rfl⟩ | ⟨rfl, _⟩⟩
      · rw [hk] at h1
        cases h1
        exact ⟨hmr, rfl⟩
      · obtain ⟨N, vs, g1, g2, g3, g4, g5⟩ := (hr.ow j _ h1').1
        exact ⟨⟨N, vs, g1, g2, thwL_ok hmo g3, thwL_one g4, g5⟩, rfl⟩
      · exact ⟨(hr.ow j _ h1').1, rfl⟩
  refine h w s g a Q ⟨hr.kp, hr.lt, hr.sz, fun t d hd => ?_, fun j c hj => ?_, fun j j' c c' N h1 h2 hne hb => ?_, hr.fr, hr.df, hr.gb⟩ hK
  · have hd' : fnd t (tvs (thwT k tm)) = some d := hd
    rw [fnd_tvs, thwT_fnd] at hd'
    cases hq : fnd1 t tm with
    | none => rw [hq] at hd'; cases hd'
    | some x =>
      rw [hq] at hd'
      cases hd'
      obtain ⟨v, h1, h2⟩ := hr.tm t x.tv (by show fnd t (tvs tm) = _; rw [fnd_tvs, hq]; rfl)
      exact ⟨v, h1, thwD_ok hmo h2⟩
  · obtain ⟨c0, h1, h2, h3⟩ := howf hj
    exact ⟨h2, fun N hb => (hr.ow j c0 h1).2 N (by rw [← h3]; exact hb)⟩
  · obtain ⟨c0, e1, _, e3⟩ := howf h1
    obtain ⟨d0, f1, _, f3⟩ := howf h2
    rw [f3]
    exact hr.sep j j' c0 d0 N e1 f1 hne (by rw [← e3]; exact hb)
end
theorem Sub.mo {k n m : Nat} (h : n = m) : Sub (.mo k n) (.mo k m) := by subst h; exact Sub.refl _
theorem Sub.mw {k q i sz n q' i' n' : Nat} (h1 : q = q') (h2 : i = i') (h3 : n = n') : Sub (.mw k q i sz n) (.mw k q' i' sz n') := by subst h1; subst h2; subst h3; exact Sub.refl _
theorem Sub.moMw {k n q i sz m : Nat} (h0 : 0 < n) (h1 : n = q) (h2 : 0 = i) (h3 : n = m) : Sub (.mo k n) (.mw k q i sz m) := by subst h1; subst h2; subst h3; exact fun w s g v hv => mo_mw h0 hv
theorem SubO.mr {ty : TypeId} {sz : Nat} {m m' : MR} (h : m.rows = m'.rows) : SubO (.mrow ty sz m) (.mrow ty sz m') := ⟨rfl, rfl, congrArg D.pvss h⟩
end Go.Proofs.YtnkjenaanjnihaaGreatDoor
