/- Part 23 of the proof. -/
import Derived.Test.YtcklaaaomjmhgaaGreatDoorM13
import Derived.Test.YtcklaaaomjmhgaaGreatDoorM21
import Derived.Test.YtcklaaaomjmhgaaGreatDoorM22
import Derived.Test.YtcklaaaomjmhgaaGreatDoorM15
import Derived.Test.YtcklaaaomjmhgaaGreatDoorM12


/- Two's complement of limbs. Plain. -/
namespace Go.Proofs.YtcklaaaomjmhgaaGreatDoor
theorem lg_at {l : List Nat} (h : Lg l) (i : Nat) : l.getD i 0 < 4294967296 := by
  rcases Nat.lt_or_ge i l.length with h1 | h1
  · rw [L_getD_lt h1]; exact h.at h1
  · rw [List.getD_eq_getElem?_getD, List.getElem?_eq_none h1]; show 0 < _; omega
structure Tw (x : List Nat) where
  k : Nat
  c : Nat
  o : List Nat
  eq : VL o + c * 4294967296 ^ k + VL (x.take k) = 4294967296 ^ k
  lo : o.length = k
  lg : Lg o
  hc : c ≤ 1
  le : k ≤ x.length
theorem tw_step {x o : List Nat} {k c s : Nat} (hx : Lg x) (h : VL o + c * 4294967296 ^ k + VL (x.take k) = 4294967296 ^ k) (ho : o.length = k) (hk : k < x.length) (hs : s = c + (4294967295 - x.getD k 0)) :
    VL (o ++ [s % 4294967296]) + s / 4294967296 * 4294967296 ^ (k + 1) + VL (x.take (k + 1)) = 4294967296 ^ (k + 1) := by
  rw [L_snoc, ho, L_take_succ hk, Nat.pow_succ]
  have hb := hx.at hk
  rw [L_getD_lt hk] at hs
  generalize 4294967296 ^ k = B at *
  have e : s = 4294967296 * (s / 4294967296) + s % 4294967296 := (Nat.div_add_mod s 4294967296).symm
  have e2 : B * s = B * (4294967296 * (s / 4294967296)) + B * (s % 4294967296) := by rw [← Nat.mul_add, ← e]
  have e3 : B * s + B * x[k] = B * c + B * 4294967295 := by rw [← Nat.mul_add, ← Nat.mul_add]; congr 1; omega
  have e4 : s / 4294967296 * (B * 4294967296) = B * (4294967296 * (s / 4294967296)) := by rw [Nat.mul_comm, Nat.mul_assoc]
  have e5 : c * B = B * c := Nat.mul_comm _ _
  omega
def Tw.s {x : List Nat} (t : Tw x) : Nat := t.c + (4294967295 - x.getD t.k 0)
def Tw.next {x : List Nat} (t : Tw x) (hx : Lg x) (h : t.k < x.length) : Tw x := ⟨t.k + 1, t.s / 4294967296, t.o ++ [t.s % 4294967296], tw_step hx t.eq t.lo h rfl, by simp [t.lo], t.lg.snoc (Nat.mod_lt _ (by decide)), by
  have h1 := lg_at hx t.k
  have h2 := t.hc
  unfold Tw.s
  omega, h⟩
def Tw.start (x : List Nat) : Tw x := ⟨0, 1, [], by simp [VL], rfl, Lg.nil, Nat.le_refl _, Nat.zero_le _⟩
theorem Tw.fin {x : List Nat} (t : Tw x) (h : x.length ≤ t.k) (hz : 0 < VL x) : VL t.o = 4294967296 ^ x.length - VL x ∧ t.o.length = x.length := by
  have hk := t.le
  have e : t.k = x.length := by omega
  have h1 := t.eq
  rw [e, List.take_of_length_le (Nat.le_refl _)] at h1
  refine ⟨?_, by rw [t.lo, e]⟩
  have h2 := t.hc
  rcases Nat.lt_or_ge 0 t.c with h3 | h3
  · have : t.c = 1 := by omega
    rw [this] at h1
    omega
  · have : t.c = 0 := by omega
    rw [this] at h1
    omega
structure Nt (x : List Nat) where
  k : Nat
  o : List Nat
  eq : o = (x.take k).map fun d => 4294967295 - d
  le : k ≤ x.length
def Nt.next {x : List Nat} (t : Nt x) (h : t.k < x.length) : Nt x := ⟨t.k + 1, t.o ++ [4294967295 - x.getD t.k 0], by rw [t.eq, L_getD_lt h, List.take_add_one, List.getElem?_eq_getElem h, List.map_append]; rfl, h⟩
theorem Nt.lo {x : List Nat} (t : Nt x) : t.o.length = t.k := by rw [t.eq, List.length_map, List.length_take, Nat.min_eq_left t.le]
theorem not_V : ∀ {x : List Nat}, Lg x → VL (x.map fun d => 4294967295 - d) + VL x + 1 = 4294967296 ^ x.length
  | [], _ => rfl
  | d :: x, h => by
    have h1 := not_V (x := x) fun y hy => h y (List.mem_cons_of_mem _ hy)
    have h2 := h d List.mem_cons_self
    rw [List.map_cons, L_cons, L_cons, List.length_cons, Nat.pow_succ]
    omega
theorem not_Lg (x : List Nat) : Lg (x.map fun d => 4294967295 - d) := fun y hy => by
  obtain ⟨d, _, rfl⟩ := List.mem_map.1 hy
  omega
theorem top_V {l : List Nat} {n : Nat} (hl : l.length = n + 1) : VL l = VL (l.take n) + 4294967296 ^ n * l.getD n 0 := by
  rw [L_getD_lt (by omega), ← L_take_succ (by omega), List.take_of_length_le (by omega)]
theorem top_pos {l : List Nat} {n : Nat} (hg : Lg l) (hl : l.length = n + 1) (h : VL l < 4294967296 ^ n) : l.getD n 0 = 0 := by
  have h1 := top_V hl
  rcases Nat.eq_zero_or_pos (l.getD n 0) with h2 | h2
  · exact h2
  · have : 4294967296 ^ n * 1 ≤ 4294967296 ^ n * l.getD n 0 := Nat.mul_le_mul_left _ h2
    omega
theorem top_neg {l : List Nat} {n : Nat} (hg : Lg l) (hl : l.length = n + 1) (h : 4294967296 ^ (n + 1) ≤ VL l + 4294967296 ^ n) : l.getD n 0 = 4294967295 := by
  have h1 := top_V hl
  have h2 := lg_at hg n
  have h3 := L_lt (hg.take n)
  rw [List.length_take, Nat.min_eq_left (by omega)] at h3
  rw [Nat.pow_succ] at h
  rcases Nat.lt_or_ge (l.getD n 0) 4294967295 with h4 | h4
  · have h5 : 4294967296 ^ n * l.getD n 0 ≤ 4294967296 ^ n * 4294967294 := Nat.mul_le_mul_left _ (by omega)
    generalize 4294967296 ^ n = B at *
    omega
  · omega
structure TrmL (l : List Nat) where
  r : List Nat
  lg : Lg r
  eq : VL r = VL l
  le : r.length ≤ l.length
theorem last_takeL {r : List Nat} (h : 0 < r.length) (h0 : r.getD (r.length - 1) 0 = 0) : VL (r.take (r.length - 1)) = VL r := by
  have h1 := top_V (l := r) (n := r.length - 1) (by omega)
  rw [h0] at h1
  omega
def TrmL.next {l : List Nat} (x : TrmL l) (h : 0 < x.r.length) (h0 : x.r.getD (x.r.length - 1) 0 = 0) : TrmL l := ⟨x.r.take (x.r.length - 1), x.lg.take _, by rw [last_takeL h h0, x.eq], by have := x.le; simp; omega⟩
theorem TrmL.fin {l : List Nat} (x : TrmL l) (h : 0 < x.r.length → x.r.getD (x.r.length - 1) 0 ≠ 0) : x.r = lim (VL l) := by
  rw [← x.eq]
  refine (lim_V x.lg fun hne => ?_).symm
  have hp : 0 < x.r.length := List.length_pos_iff.2 hne
  rw [List.getLast_eq_getElem, ← L_getD_lt (by omega)]
  exact h hp
end Go.Proofs.YtcklaaaomjmhgaaGreatDoor


/- Valid numbers and their limbs. Plain. -/
namespace Go.Proofs.YtcklaaaomjmhgaaGreatDoor
theorem int_ok {b : Bool} {l : List Nat} (hg : Lg l) (h : intOk b l = true) : l = lim (VL l) ∧ b = decide (ZI b (VL l) < 0) ∧ l.length ≤ 128 := by
  unfold intOk at h
  rw [Bool.and_eq_true, Bool.or_eq_true, Bool.and_eq_true, Bool.and_eq_true, decide_eq_true_eq, decide_eq_true_eq, decide_eq_true_eq, decide_eq_true_eq] at h
  obtain ⟨h1, h2⟩ := h
  rcases h2 with ⟨h2, h3⟩ | ⟨h2, h3⟩
  · have hl : l = [] := List.eq_nil_of_length_eq_zero h2
    subst hl
    have hb : b = false := by simpa using h3
    subst hb
    exact ⟨by rw [L_nil, lim_zero], rfl, Nat.zero_le _⟩
  · have hn : NoLeadL l := fun hne => by
      rw [List.getLast_eq_getElem]
      rwa [L_getD_lt (by omega)] at h3
    have hv := (lim_V hg hn).symm
    refine ⟨hv, ?_, h1⟩
    have hp : 0 < VL l := by
      rcases Nat.eq_zero_or_pos (VL l) with h0 | h0
      · rw [h0, lim_zero] at hv
        rw [hv] at h2
        exact absurd h2 (by decide)
      · exact h0
    unfold ZI
    cases b
    · simp
    · simp; omega
theorem lim_nil {n : Nat} : lim n = [] ↔ n = 0 := by
  constructor
  · intro h
    rcases Nat.eq_zero_or_pos n with h0 | h0
    · exact h0
    · rw [lim_pos (by omega)] at h; cases h
  · rintro rfl; exact lim_zero
theorem lim_len {n : Nat} : (decide ((0 : Int) < ((lim n).length : Nat))) = decide (0 < n) := by
  apply decide_eq_decide.2
  constructor
  · intro h
    rcases Nat.eq_zero_or_pos n with h0 | h0
    · rw [h0, lim_zero] at h; exact absurd h (by decide)
    · exact h0
  · intro h
    have : lim n ≠ [] := fun e => by rw [lim_nil] at e; omega
    have := List.length_pos_iff.2 this
    omega
theorem dig_len {n : Nat} : (decide ((0 : Int) < ((dig n).length : Nat))) = decide (0 < n) := by
  apply decide_eq_decide.2
  constructor
  · intro h
    rcases Nat.eq_zero_or_pos n with h0 | h0
    · rw [h0, dig_zero] at h; exact absurd h (by decide)
    · exact h0
  · intro h
    have : dig n ≠ [] := fun e => by rw [dig_eq_nil] at e; omega
    have := List.length_pos_iff.2 this
    omega
end Go.Proofs.YtcklaaaomjmhgaaGreatDoor


/- The evaluator: ways that come together. Nothing here speaks of the program. -/
namespace Go.Proofs.YtcklaaaomjmhgaaGreatDoor
open Go.RowKit
section
variable {P : Program} {b : Ba}
end
def thwD (k : Nat) : D → D
  | .own k' sz rows => match Nat.beq k' k with
    | true => match rows with
      | [] => .mo k' 0
      | r :: l => .own k' sz (r :: l)
    | false => .own k' sz rows
  | d => d
def thwL (k : Nat) : List D → List D
  | [] => []
  | d :: l => thwD k d :: thwL k l
def thwT (k : Nat) : List (Nat × D) → List (Nat × D)
  | [] => []
  | (t, d) :: l => (t, thwD k d) :: thwT k l
def thwO (k : Nat) (e : TypeId) (sz : Nat) : List (Nat × DOwn) → List (Nat × DOwn)
  | [] => []
  | (j, c) :: l => (match Nat.beq j k with
    | true => (j, .mrow e sz (.lst []))
    | false => match c with
      | .box t cs => (j, .box t (thwL k cs))
      | c => (j, c)) :: thwO k e sz l
theorem thwT_fnd {k : Nat} : ∀ {l : List (Nat × D)} {t : Nat}, fnd1 t (thwT k l) = (fnd1 t l).map (thwD k)
  | [], _ => rfl
  | (u, d) :: l, t => by
    show fnd1 t ((u, thwD k d) :: thwT k l) = _
    rw [fnd1_cons, fnd1_cons]
    by_cases h : u = t
    · simp [h]
    · rw [if_neg h, if_neg h]; exact thwT_fnd
theorem thwD_ok {w : World} {s : Sb} {g : Gh} {k : Nat} (hmo : ∀ v, g.gn k 0 = some v → (TV.mo k 0).P w s g v) {d : D} {v : Value} (hv : d.tv.P w s g v) : (thwD k d).tv.P w s g v := by
  cases d with
  | own k' sz rows =>
    show (match Nat.beq k' k with | true => (match rows with | [] => D.mo k' 0 | r :: l => D.own k' sz (r :: l)) | false => D.own k' sz rows).tv.P w s g v
    cases hb : Nat.beq k' k with
    | false => exact hv
    | true =>
      have e := Nat.eq_of_beq_eq_true hb
      subst e
      cases rows with
      | nil =>
        rw [D.tv, TV.P] at hv
        show (D.mo k' 0).tv.P w s g v
        rw [D.tv]
        exact hmo v hv.2
      | cons r l => exact hv
  | _ => exact hv
theorem thwL_ok {w : World} {s : Sb} {g : Gh} {k : Nat} (hmo : ∀ v, g.gn k 0 = some v → (TV.mo k 0).P w s g v) : ∀ {l : List D} {vs : List Value}, AllT w s g (D.tvl l) vs → AllT w s g (D.tvl (thwL k l)) vs
  | [], vs, hv => by cases vs with | nil => rw [thwL, D.tvl]; trivial | cons _ _ => exact hv.elim
  | d :: l, [], hv => by rw [D.tvl] at hv; exact hv.elim
  | d :: l, v :: vs, hv => by
    rw [D.tvl] at hv
    rw [thwL, D.tvl]
    exact ⟨thwD_ok hmo hv.1, thwL_ok hmo hv.2⟩
theorem thwL_one {k : Nat} : ∀ {l : List D}, (∀ d ∈ D.tvl l, d.one = true) → ∀ d ∈ D.tvl (thwL k l), d.one = true
  | [], _, d, hd => by rw [thwL, D.tvl] at hd; cases hd
  | x :: l, h, d, hd => by
    rw [thwL, D.tvl] at hd
    rw [D.tvl] at h
    rcases List.mem_cons.1 hd with rfl | hd
    · have h1 := h x.tv (by simp)
      cases x with
      | own k' sz rows =>
        show (match Nat.beq k' k with | true => (match rows with | [] => D.mo k' 0 | r :: l => D.own k' sz (r :: l)) | false => D.own k' sz rows).tv.one = true
        cases Nat.beq k' k with
        | false => rfl
        | true => cases rows <;> rfl
      | _ => exact h1
    · exact thwL_one (fun y hy => h y (by simp [hy])) d hd
theorem thwO_fnd {k : Nat} {e : TypeId} {sz : Nat} : ∀ {l : List (Nat × DOwn)} {j : Nat} {c : DOwn}, fnd1 j (thwO k e sz l) = some c → ∃ c0, fnd1 j l = some c0 ∧ ((j = k ∧ c = .mrow e sz (.lst [])) ∨ (j ≠ k ∧ ((∃ t cs, c0 = .box t cs ∧ c = .box t (thwL k cs)) ∨ (c = c0 ∧ ∀ t cs, c0 ≠ .box t cs))))
  | [], _, _, h => by cases h
  | (i, c0) :: l, j, c, h => by
    unfold thwO at h
    have step : ∀ x : DOwn, fnd1 j ((i, x) :: thwO k e sz l) = some c → (i = j ∧ x = c) ∨ (i ≠ j ∧ fnd1 j (thwO k e sz l) = some c) := fun x hx => by
      rw [fnd1_cons] at hx
      by_cases hi : i = j
      · rw [if_pos hi] at hx; exact .inl ⟨hi, Option.some.inj hx⟩
      · rw [if_neg hi] at hx; exact .inr ⟨hi, hx⟩
    have rest : i ≠ j → fnd1 j (thwO k e sz l) = some c → ∃ c0', fnd1 j ((i, c0) :: l) = some c0' ∧ ((j = k ∧ c = .mrow e sz (.lst [])) ∨ (j ≠ k ∧ ((∃ t cs, c0' = .box t cs ∧ c = .box t (thwL k cs)) ∨ (c = c0' ∧ ∀ t cs, c0' ≠ .box t cs)))) := fun hi hx => by
      obtain ⟨c1, h1, h2⟩ := thwO_fnd hx
      exact ⟨c1, by rw [fnd1_cons, if_neg hi]; exact h1, h2⟩
    cases hb : Nat.beq i k with
    | true =>
      rw [hb] at h
      have hik := Nat.eq_of_beq_eq_true hb
      rcases step _ h with ⟨rfl, rfl⟩ | ⟨hi, hx⟩
      · exact ⟨c0, by rw [fnd1_cons]; simp, .inl ⟨hik, rfl⟩⟩
      · exact rest hi hx
    | false =>
      rw [hb] at h
      have hik : i ≠ k := by rintro rfl; rw [Nat.beq_refl] at hb; cases hb
      cases c0 with
      | box t cs =>
        rcases step _ h with ⟨rfl, rfl⟩ | ⟨hi, hx⟩
        · exact ⟨_, by rw [fnd1_cons]; simp, .inr ⟨hik, .inl ⟨t, cs, rfl, rfl⟩⟩⟩
        · exact rest hi hx
      | _ =>
        rcases step _ h with ⟨rfl, rfl⟩ | ⟨hi, hx⟩
        · exact ⟨_, by rw [fnd1_cons]; simp, .inr ⟨hik, .inr ⟨rfl, fun _ _ h => by cases h⟩⟩⟩
        · exact rest hi hx
section
variable {P : Program} {b : Ba}
theorem ev_thaw (k : Nat) {e : TypeId} {sz : Nat} {c : Code} {tm : List (Nat × D)} {ow : List (Nat × DOwn)} {nx : Nat} {K : Exit → DS → Prop} (hk : fnd1 k ow = some (.row e sz 0))
    (h : Ev P b c ⟨thwT k tm, thwO k e sz ow, nx⟩ K) : Ev P b c ⟨tm, ow, nx⟩ K := by
  intro w s g a Q hr hK
  have hk0 : fnd k (ows ow) = some (.row e sz 0) := by rw [fnd_ows, hk]; rfl
  obtain ⟨hok, hblk⟩ := hr.ow k _ hk0
  obtain ⟨hmr, hmo⟩ := hok.thaw
  have howf : ∀ {j : Nat} {c : Own}, fnd j (ows (thwO k e sz ow)) = some c → ∃ c0, fnd j (ows ow) = some c0 ∧ Ok1 w s g j c ∧ blk g j c = blk g j c0 := fun {j c} hj => by
    rw [fnd_ows] at hj
    cases hq : fnd1 j (thwO k e sz ow) with
    | none => rw [hq] at hj; cases hj
    | some d =>
      rw [hq] at hj
      cases hj
      obtain ⟨c0, h1, h2⟩ := thwO_fnd hq
      have h1' : fnd j (ows ow) = some c0.o := by rw [fnd_ows, h1]; rfl
      refine ⟨c0.o, h1', ?_⟩
      rcases h2 with ⟨rfl, rfl⟩ | ⟨hne, ⟨t, cs, rfl, rfl⟩ | ⟨rfl, _⟩⟩
      · rw [hk] at h1
        cases h1
        exact ⟨hmr, rfl⟩
      · obtain ⟨N, vs, g1, g2, g3, g4, g5⟩ := (hr.ow j _ h1').1
        exact ⟨⟨N, vs, g1, g2, thwL_ok hmo g3, thwL_one g4, g5⟩, rfl⟩
      · exact ⟨(hr.ow j _ h1').1, rfl⟩
  refine h w s g a Q ⟨hr.kp, hr.lt, hr.sz, fun t d hd => ?_, fun j c hj => ?_, fun j j' c c' N h1 h2 hne hb => ?_, hr.fr, hr.df, hr.gb⟩ hK
  · have hd' : fnd t (tvs (thwT k tm)) = some d := hd
    rw [fnd_tvs, thwT_fnd] at hd'
    cases hq : fnd1 t tm with
    | none => rw [hq] at hd'; cases hd'
    | some x =>
      rw [hq] at hd'
      cases hd'
      obtain ⟨v, h1, h2⟩ := hr.tm t x.tv (by show fnd t (tvs tm) = _; rw [fnd_tvs, hq]; rfl)
      exact ⟨v, h1, thwD_ok hmo h2⟩
  · obtain ⟨c0, h1, h2, h3⟩ := howf hj
    exact ⟨h2, fun N hb => (hr.ow j c0 h1).2 N (by rw [← h3]; exact hb)⟩
  · obtain ⟨c0, e1, _, e3⟩ := howf h1
    obtain ⟨d0, f1, _, f3⟩ := howf h2
    rw [f3]
    exact hr.sep j j' c0 d0 N e1 f1 hne (by rw [← e3]; exact hb)
end
theorem Sub.mo {k n m : Nat} (h : n = m) : Sub (.mo k n) (.mo k m) := by subst h; exact Sub.refl _
theorem SubO.mr {ty : TypeId} {sz : Nat} {m m' : MR} (h : m.rows = m'.rows) : SubO (.mrow ty sz m) (.mrow ty sz m') := ⟨rfl, rfl, congrArg D.pvss h⟩
theorem SubO.mp {ty : TypeId} {sz : Nat} {m m' : MR} (h : D.pvss m.rows = D.pvss m'.rows) : SubO (.mrow ty sz m) (.mrow ty sz m') := ⟨rfl, rfl, h⟩
theorem SubO.app {α : Type} {ty : TypeId} {sz : Nat} {l r : List α} {f : α → List D} {e : α} : SubO (.mrow ty sz (.app (.map l f e) (r.map f))) (.mrow ty sz (.map (l ++ r) f e)) := ⟨rfl, rfl, congrArg D.pvss (List.map_append).symm⟩
end Go.Proofs.YtcklaaaomjmhgaaGreatDoor


/- Unary operators on numbers. Plain. -/
namespace Go.Proofs.YtcklaaaomjmhgaaGreatDoor
theorem pow_256 : (4294967296 : Nat) ^ 128 = 65536 ^ 256 := by decide +kernel
theorem fit_iff (n : Nat) : (dig n).length ≤ 256 ↔ (lim n).length ≤ 128 := by
  constructor
  · intro h
    have := lim_dig_length n
    omega
  · intro h
    refine dig_length_le ?_
    rw [← pow_256]
    exact Nat.lt_of_lt_of_le (lim_lt n) (Nat.pow_le_pow_right (by decide) h)
theorem fit_dec (n : Nat) : decide (((dig n).length : Int) ≤ 256) = decide ((lim n).length ≤ 128) := decide_eq_decide.2 (by have := fit_iff n; omega)
def ivV (b : Bool) (n : Nat) : Vl := ⟨2, b && decide (0 < n), lim n, false, [], ByteArray.empty, 0⟩
def raV (b : Bool) (n d : Nat) : Vl := if d = 1 then ivV b n else ⟨3, b && decide (0 < n), lim n, false, lim d, ByteArray.empty, 0⟩
def fitB (n d : Nat) : Bool := decide ((lim n).length ≤ 128) && decide ((lim d).length ≤ 128)
def tooB : ByteArray := ⟨#[118, 97, 108, 117, 101, 32, 105, 115, 32, 116, 111, 111, 32, 108, 97, 114, 103, 101]⟩
def nuS (b : Bool) (n d : Nat) : St := if fitB n d = true then vlS (raV b n d) else raS 42 tooB
def plB (b1 : Bool) (n1 : Nat) (b2 : Bool) (n2 : Nat) : Bool × Nat := if b1 = b2 then (b1, n1 + n2) else if n2 ≤ n1 then (b1, n1 - n2) else (b2, n2 - n1)
def ngV (v : Vl) : Vl := { v with nn := !v.nn && decide (0 < v.nl.length) }
theorem len_pos {l : List Nat} (hg : Lg l) (h : l = lim (VL l)) : decide (0 < l.length) = decide (0 < VL l) := by
  have := lim_len (n := VL l)
  rw [← h] at this
  rw [← this]
  exact decide_eq_decide.2 (by omega)
theorem zI_nil {b : Bool} {l : List Nat} (h : zI b l = true) : b = false ∧ l = [] := by
  unfold zI smI at h
  simpa using h
theorem emS_nil {s : ByteArray} (h : emS s = true) : s = ByteArray.empty := by
  exact of_decide_eq_true h
theorem vok2 {v : Vl} (hk : v.k = 2) (hv : vokS v = true) : intOk v.nn v.nl = true ∧ v.dn = false ∧ v.dl = [] ∧ v.s = ByteArray.empty ∧ v.r = 0 := by
  unfold vokS at hv
  rw [if_neg (by omega), if_neg (by omega), if_pos hk] at hv
  simp only [Bool.and_eq_true, decide_eq_true_eq] at hv
  obtain ⟨⟨⟨h1, h2⟩, h3⟩, h4⟩ := hv
  exact ⟨h1, (zI_nil h2).1, (zI_nil h2).2, emS_nil h3, h4⟩
theorem vok3 {v : Vl} (hk : v.k = 3) (hv : vokS v = true) : intOk v.nn v.nl = true ∧ intOk v.dn v.dl = true ∧ v.dn = false ∧ 0 < v.dl.length ∧ oneS v.dl = false ∧ v.s = ByteArray.empty ∧ v.r = 0 := by
  unfold vokS at hv
  rw [if_neg (by omega), if_neg (by omega), if_neg (by omega), if_pos hk] at hv
  simp only [Bool.and_eq_true, decide_eq_true_eq, ratS, Bool.not_eq_true'] at hv
  obtain ⟨⟨⟨⟨⟨⟨h1, h2⟩, h5⟩, _⟩, h7⟩, h3⟩, h4⟩ := hv
  exact ⟨h1, h2, h5.1, h5.2, h7, emS_nil h3, h4⟩
theorem oneS_of {l : List Nat} (h : l = lim 1) : oneS l = true := by
  subst h
  decide +kernel
theorem neg_eq {v : Vl} (hk : v.k = 2 ∨ v.k = 3) (hv : vokS v = true) (h1 : Lg v.nl) (h2 : Lg v.dl) :
    nuS (!v.nn && decide (0 < VL v.nl)) (VL v.nl) (if v.k = 3 then VL v.dl else 1) = vlS (ngV v) := by
  obtain ⟨k, nn, nl, dn, dl, s, r⟩ := v
  rcases hk with hk | hk
  · obtain ⟨g1, g2, g3, g4, g5⟩ := vok2 hk hv
    obtain ⟨e1, e2, e3⟩ := int_ok h1 g1
    simp only at *
    subst hk g2 g3 g4 g5
    have e4 := len_pos h1 e1
    rw [if_neg (by decide), nuS, if_pos (by rw [fitB, ← e1, decide_eq_true e3]; decide +kernel), raV, if_pos rfl, ivV, ngV, ← e1]
    simp only [e4]
    cases nn <;> cases decide (0 < VL nl) <;> rfl
  · obtain ⟨g1, g0, g2, g3, g7, g4, g5⟩ := vok3 hk hv
    obtain ⟨e1, e2, e3⟩ := int_ok h1 g1
    obtain ⟨f1, f2, f3⟩ := int_ok h2 g0
    simp only at *
    subst hk g2 g4 g5
    have e4 := len_pos h1 e1
    have hd : ¬ VL dl = 1 := fun e => by rw [e] at f1; rw [oneS_of f1] at g7; cases g7
    rw [if_pos rfl, nuS, if_pos (by rw [fitB, ← e1, ← f1, decide_eq_true e3, decide_eq_true f3]; rfl), raV, if_neg hd, ngV, ← e1, ← f1]
    simp only [e4]
    cases nn <;> cases decide (0 < VL nl) <;> rfl
def ntB (b : Bool) (n : Nat) : Bool × Nat := if b = true then (false, n - 1) else (true, n + 1)
def ntS (b : Bool) (l : List Nat) : St := nuS (ntB b (VL l)).1 (ntB b (VL l)).2 1
theorem not_doc {b : Bool} {n : Nat} (h : b = true → 0 < n) : plB (!b && decide (0 < n)) n true 1 = ntB b n ∨ (b = false ∧ n = 0 ∧ plB (!b && decide (0 < n)) n true 1 = (true, 1)) := by
  cases b
  · rcases Nat.eq_zero_or_pos n with h0 | h0
    · subst h0; exact .inr ⟨rfl, rfl, by decide⟩
    · left
      rw [show (!false && decide (0 < n)) = true by simp [h0], plB, if_pos rfl, ntB, if_neg (by decide)]
  · left
    have := h rfl
    rw [show (!true && decide (0 < n)) = false from rfl, plB, if_neg (by decide), if_pos (by omega), ntB, if_pos rfl]
theorem not_doc' {b : Bool} {n : Nat} (h : b = true → 0 < n) : plB (!b && decide (0 < n)) n true 1 = ntB b n := by
  rcases not_doc h with h1 | ⟨rfl, rfl, h1⟩
  · exact h1
  · rw [h1]; rfl
end Go.Proofs.YtcklaaaomjmhgaaGreatDoor
