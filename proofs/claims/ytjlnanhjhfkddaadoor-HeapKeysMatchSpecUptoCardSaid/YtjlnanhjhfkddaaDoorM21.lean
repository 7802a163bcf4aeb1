/- Part 21 of the proof. -/
import Derived.Test.YtjlnanhjhfkddaaDoorM10

/- The evaluator: a nil slice in a box; rows told in other words. Nothing here speaks of the program. -/
namespace Go.Proofs.YtjlnanhjhfkddaaDoor
open Go.RowKit

def RowsP : List (List D) → List (List D) → Prop
  | [], [] => True
  | r :: l, r' :: l' => SubPs r r' ∧ RowsP l l'
  | _, _ => False
theorem RowsP.refl : ∀ l, RowsP l l
  | [] => trivial
  | r :: l => ⟨SubPs.refl r, RowsP.refl l⟩
theorem RowsP.append : ∀ {a b a' b' : List (List D)}, RowsP a a' → RowsP b b' → RowsP (a ++ b) (a' ++ b')
  | [], _, [], _, _, h => h
  | _ :: _, _, _ :: _, _, h, h' => ⟨h.1, h.2.append h'⟩
  | [], _, _ :: _, _, h, _ => h.elim
  | _ :: _, _, [], _, h, _ => h.elim
theorem SubPs.len : ∀ {l l' : List D}, SubPs l l' → l.length = l'.length
  | [], [], _ => rfl
  | _ :: _, _ :: _, h => by simp [h.2.len]
  | [], _ :: _, h => h.elim
  | _ :: _, [], h => h.elim
theorem SubPs.get : ∀ {l l' : List D}, SubPs l l' → ∀ {j : Nat} {d' : D}, l'[j]? = some d' → ∃ d, l[j]? = some d ∧ SubP d d'
  | [], [], _, j, d', hd => by simp at hd
  | d :: l, e :: l', h, 0, d', hd => by simp at hd; subst hd; exact ⟨d, rfl, h.1⟩
  | d :: l, e :: l', h, j + 1, d', hd => by simpa using h.2.get (by simpa using hd)
  | [], _ :: _, h, _, _, _ => h.elim
  | _ :: _, [], h, _, _, _ => h.elim
theorem RowsP.len : ∀ {l l' : List (List D)}, RowsP l l' → l.length = l'.length
  | [], [], _ => rfl
  | _ :: _, _ :: _, h => by simp [h.2.len]
  | [], _ :: _, h => h.elim
  | _ :: _, [], h => h.elim
theorem RowsP.get : ∀ {l l' : List (List D)}, RowsP l l' → ∀ {j : Nat} {d' : List D}, l'[j]? = some d' → ∃ d, l[j]? = some d ∧ SubPs d d'
  | [], [], _, j, d', hd => by simp at hd
  | d :: l, e :: l', h, 0, d', hd => by simp at hd; subst hd; exact ⟨d, rfl, h.1⟩
  | d :: l, e :: l', h, j + 1, d', hd => by simpa using h.2.get (by simpa using hd)
  | [], _ :: _, h, _, _, _ => h.elim
  | _ :: _, [], h, _, _, _ => h.elim
theorem rowsP_sl {m : Bool} {sz : Nat} {rows rows' : List (List D)} (h : RowsP rows rows') {w : World} {s : Sb} {v : Value} (hv : (PV.sl m sz (D.pvss rows)).p w s v) : (PV.sl m sz (D.pvss rows')).p w s v := by
  obtain ⟨a, cap, rfl, h2, h3, h4, h5⟩ := hv
  rw [pvss_length] at h2
  refine ⟨a, cap, by rw [pvss_length, pvss_length, h.len], by rw [pvss_length, ← h.len]; exact h2, h3, fun row hrow => ?_, fun i row hr => ?_⟩
  · rw [pvss_map] at hrow
    obtain ⟨r', hr', rfl⟩ := List.mem_map.1 hrow
    obtain ⟨j, hj⟩ := List.getElem?_of_mem hr'
    obtain ⟨r, hr, hs⟩ := h.get hj
    rw [pvs_length, ← hs.len, ← pvs_length]
    exact h4 _ (by rw [pvss_map]; exact List.mem_map.2 ⟨r, List.mem_of_getElem? hr, rfl⟩)
  · rw [pvss_map, List.getElem?_map] at hr
    cases hq : rows'[i]? with
    | none => rw [hq] at hr; cases hr
    | some r' =>
      rw [hq] at hr; cases hr
      obtain ⟨r, hr, hs⟩ := h.get hq
      obtain ⟨b, off, e1, hc⟩ := h5 i (D.pvs r) (by rw [pvss_map, List.getElem?_map, hr]; rfl)
      refine ⟨b, off, e1, fun j d hd => ?_⟩
      rw [pvs_map, List.getElem?_map] at hd
      cases hq2 : r'[j]? with
      | none => rw [hq2] at hd; cases hd
      | some d' =>
        rw [hq2] at hd; cases hd
        obtain ⟨d0, hd0, hsub⟩ := hs.get hq2
        obtain ⟨u, g1, g2, g3, g4⟩ := hc j d0.pv (by rw [pvs_map, List.getElem?_map, hd0]; rfl)
        exact ⟨u, g1, g2, hsub _ _ _ g3, g4⟩
theorem Sub.ownRows {k sz : Nat} {rows rows' : List (List D)} (h : RowsP rows rows') : Sub (.own k sz rows) (.own k sz rows') := by
  intro w s g v hv
  rw [D.tv, TV.P] at hv ⊢
  refine ⟨rowsP_sl h hv.1, ?_⟩
  have := hv.2
  rw [pvss_length] at this ⊢
  rw [← h.len]; exact this
def setD : Nat → D → List D → List D
  | _, _, [] => []
  | 0, d, _ :: l => d :: l
  | n + 1, d, x :: l => x :: setD n d l
theorem setD_all {w : World} {s : Sb} {g g' : Gh} {d : D} (hg : GLe g g') (hd : d.tv.P w s g' (.slice none 0 0)) : ∀ {n : Nat} {l : List D} {vs : List Value}, getS n l = some (.v (.slice none 0 0)) → AllT w s g (D.tvl l) vs → AllT w s g' (D.tvl (setD n d l)) vs
  | _, [], _, h, _ => by simp [getS] at h
  | _, _ :: _, [], _, hv => by rw [D.tvl] at hv; simp [AllT] at hv
  | 0, x :: l, v :: vs, h, hv => by
    simp only [getS, Option.some.injEq] at h
    subst h
    rw [D.tvl, AllT] at hv
    have h1 : v = .slice none 0 0 := hv.1
    subst h1
    rw [setD, D.tvl, AllT]
    exact ⟨hd, AllT.mono (Ex.refl w s) hg hv.2⟩
  | n + 1, x :: l, v :: vs, h, hv => by
    rw [D.tvl, AllT] at hv
    rw [setD, D.tvl, AllT]
    exact ⟨TV.mono (Ex.refl w s) hg hv.1, setD_all hg hd (by simpa [getS] using h) hv.2⟩
theorem setD_one {d : D} (hd : d.one = true) : ∀ {n : Nat} {l : List D}, (∀ x ∈ D.tvl l, x.one = true) → ∀ x ∈ D.tvl (setD n d l), x.one = true
  | _, [], h => by cases ‹Nat› <;> exact h
  | 0, y :: l, h => by
    rw [setD, D.tvl]
    rw [D.tvl] at h
    intro x hx
    rcases List.mem_cons.1 hx with rfl | hx
    · exact D.tv_one hd
    · exact h x (List.mem_cons_of_mem _ hx)
  | n + 1, y :: l, h => by
    rw [setD, D.tvl]
    rw [D.tvl] at h
    intro x hx
    rcases List.mem_cons.1 hx with rfl | hx
    · exact h _ List.mem_cons_self
    · exact setD_one hd (fun z hz => h z (List.mem_cons_of_mem _ hz)) x hx
section
variable {P : Program} {b : Ba}
/-- A nil slice in a cell of a box becomes a row of the call's own. -/
theorem ev_nilCell (k off : Nat) (ty : TypeId) (sz : Nat) {c : Code} {tm : List (Nat × D)} {ow : List (Nat × DOwn)} {nx : Nat} {K : Exit → DS → Prop} {bt : TypeId} {cs : List D} (hk : fnd1 k ow = some (.box bt cs)) (ht : getS off cs = some (.v (.slice none 0 0)))
    (h : Ev P b c ⟨tm, (nx, .row ty sz 0) :: (k, .box bt (setD off (.own nx sz []) cs)) :: ow, nx + 1⟩ K) : Ev P b c ⟨tm, ow, nx⟩ K := by
  intro w s g a Q hr hK
  have hfr := hr.fr nx (Nat.le_refl _)
  have hst := Stp.ghostRow (w := w) (s := s) (k := nx) (sz := sz) (e := ty) hr.lt hfr
  have hk0 : fnd k (ows ow) = some (.box bt (D.tvl cs)) := by rw [fnd_ows, hk]; rfl
  have hkn : k ≠ nx := by have := hr.owLt hk0; rintro rfl; exact Nat.lt_irrefl _ this
  have hown : (D.own nx sz []).tv.P w s (g.setRow nx 0 (.slice none 0 0)) (.slice none 0 0) := by
    rw [D.tv, TV.P]; exact ⟨PV.sl_nil, Gh.setRow_eq _ _ _ _⟩
  have key : ∀ {j : Nat} {x : Own}, fnd j ((nx, Own.row ty sz 0) :: (k, Own.box bt (D.tvl (setD off (.own nx sz []) cs))) :: ows ow) = some x →
      (j = nx ∧ x = .row ty sz 0) ∨ (j ≠ nx ∧ ∃ x0, fnd j (ows ow) = some x0 ∧ blk (g.setRow nx 0 (.slice none 0 0)) j x = blk g j x0 ∧ Ok1 w s (g.setRow nx 0 (.slice none 0 0)) j x) := by
    intro j x hj
    rw [fnd_cons] at hj
    by_cases hjn : nx = j
    · simp only [hjn, if_true] at hj; cases hj; exact .inl ⟨hjn.symm, rfl⟩
    · simp only [hjn, if_false] at hj
      rw [fnd_cons] at hj
      by_cases hjk : k = j
      · simp only [hjk, if_true] at hj
        cases hj
        subst hjk
        obtain ⟨N, vs, g1, g2, g3, g4, g5⟩ := (hr.ow k _ hk0).1
        exact .inr ⟨Ne.symm hjn, _, hk0, rfl, N, vs, g1, g2, setD_all hst.gle hown ht g3, setD_one rfl g4, g5⟩
      · simp only [hjk, if_false] at hj
        have h1 := (hr.ow j x hj).1
        have hsame := hst.same j (by rw [fnd_cons]; simp [hjn, fnd])
        exact .inr ⟨Ne.symm hjn, x, hj, blk_keep h1 hst.gle, h1.keep (Ex.refl w s) hst.gle hsame.2 (fun _ _ => rfl) (fun _ _ _ h => h)⟩
  refine h w s (g.setRow nx 0 (.slice none 0 0)) a Q ⟨hr.kp, hr.lt, hr.sz, fun u d hd => ?_, fun j x hj => ?_, fun j j' x x' N hj hj' hne hb => ?_, fun j hj => ?_, hr.df, fun k hk => ⟨(hr.gb k hk).1, fun m v e => hst.gle.gn k m v ((hr.gb k hk).2 m v e)⟩⟩ hK
  · obtain ⟨v, h1, h2⟩ := hr.tm u d hd
    exact ⟨v, h1, TV.mono (Ex.refl w s) hst.gle h2⟩
  · rcases key hj with ⟨rfl, rfl⟩ | ⟨_, x0, g1, g2, g3⟩
    · refine ⟨hst.ok _ _ (by rw [fnd_cons]; simp), fun N hN => ?_⟩
      rw [blk_row (Gh.setRow_eq _ _ _ _)] at hN
      cases hN
    · exact ⟨g3, fun N hN => (hr.ow j x0 g1).2 N (by rw [← g2]; exact hN)⟩
  · intro hb'
    rcases key hj with ⟨rfl, rfl⟩ | ⟨_, x0, g1, g2, g3⟩
    · rw [blk_row (Gh.setRow_eq _ _ _ _)] at hb; cases hb
    · rcases key hj' with ⟨rfl, rfl⟩ | ⟨_, x1, g4, g5, g6⟩
      · rw [blk_row (Gh.setRow_eq _ _ _ _)] at hb'; cases hb'
      · rw [g2] at hb
        rw [g5] at hb'
        exact hr.sep j j' x0 x1 N g1 g4 hne hb hb'
  · have hj' : nx + 1 ≤ j := hj
    obtain ⟨f1, f2⟩ := hr.fr j (by show nx ≤ j; omega)
    exact ⟨f1, fun m => by rw [Gh.setRow_ne _ _ (by omega)]; exact f2 m⟩
end
end Go.Proofs.YtjlnanhjhfkddaaDoor

/- The evaluator: rows that stop turning, functions that turn what they are handed. Nothing here speaks of the program. -/
namespace Go.Proofs.YtjlnanhjhfkddaaDoor
open Go.RowKit

/-- A contract of a function that is handed own of the caller's things, and leaves own'. -/
def FnG (P : Program) (f : FuncId) (args : List D) (own : List DOwn) (out : D) (own' : List DOwn) : Prop := GFun P f (D.tvl args) (ows (enumO 0 own)) out.tv (ows (enumO 0 own'))
section
variable {P : Program} {K : DS → Prop}
theorem sat_fnL (out : D) {f : FuncId} {args : List D} {r : D → Out} (hF : Fn P f args out) (hfl : out.flat = true) (hs : out.str = true) (h : (r out).sat P K) : (Out.callL none f args r).sat P K := ⟨out, fun _ => hF, hfl, hs, h⟩
theorem sat_fnLG (out : D) {e : Bool} {f : FuncId} {args : List D} {r : D → Out} (hF : e = true → Fn P f args out) (hfl : out.flat = true) (hs : out.str = true) (h : (r out).sat P K) : (Out.callL (some e) f args r).sat P K :=
  ⟨out, fun h => hF (by cases e with | true => rfl | false => exact absurd rfl h), hfl, hs, h⟩
theorem sat_fnH (out : D) (own' : List DOwn) {f : FuncId} {args : List D} {n : Nat} {own : List DOwn} {r : D → List DOwn → Out} (hF : FnG P f args own out own') (hc : chkG n out own' = true) (h : (r out own').sat P K) : (Out.callG f args n own r).sat P K := ⟨out, own', hF, hc, h⟩
end
/-- What a row that stops turning is called from now on. -/
def frzD (k sz : Nat) (m : MR) : D → D
  | .mo k' n => match Nat.beq k' k with
    | true => .own k sz m.rows
    | false => .mo k' n
  | d => d
def frzL (k sz : Nat) (m : MR) : List D → List D
  | [] => []
  | d :: l => frzD k sz m d :: frzL k sz m l
def frzT (k sz : Nat) (m : MR) : List (Nat × D) → List (Nat × D)
  | [] => []
  | (t, d) :: l => (t, frzD k sz m d) :: frzT k sz m l
def frzO (k : Nat) (e : TypeId) (sz : Nat) (m : MR) : List (Nat × DOwn) → List (Nat × DOwn)
  | [] => []
  | (j, c) :: l => (match Nat.beq j k with
    | true => (j, .row e sz m.rows.length)
    | false => match c with
      | .box t cs => (j, .box t (frzL k sz m cs))
      | c => (j, c)) :: frzO k e sz m l
/-- Slices of the row are of all of it. -/
def frzC (k : Nat) (m : MR) : D → Prop
  | .mo k' n => k' = k → n = m.len
  | _ => True
def frzCL (k : Nat) (m : MR) : List D → Prop
  | [] => True
  | d :: l => frzC k m d ∧ frzCL k m l
def frzCT (k : Nat) (m : MR) : List (Nat × D) → Prop
  | [] => True
  | (_, d) :: l => (match d with | .mo k' n => (match Nat.beq k' k with | true => n = m.len | false => True) | _ => True) ∧ frzCT k m l
def frzCO (k : Nat) (m : MR) : List (Nat × DOwn) → Prop
  | [] => True
  | (_, .box _ cs) :: l => frzCL k m cs ∧ frzCO k m l
  | _ :: l => frzCO k m l
theorem frzT_fnd {k sz : Nat} {m : MR} : ∀ {l : List (Nat × D)} {t : Nat}, fnd1 t (frzT k sz m l) = (fnd1 t l).map (frzD k sz m)
  | [], _ => rfl
  | (u, d) :: l, t => by
    show fnd1 t ((u, frzD k sz m d) :: frzT k sz m l) = _
    rw [fnd1_cons, fnd1_cons]
    by_cases h : u = t
    · simp [h]
    · rw [if_neg h, if_neg h]; exact frzT_fnd
theorem frzCT_get {k : Nat} {m : MR} : ∀ {l : List (Nat × D)} {t : Nat} {d : D}, frzCT k m l → fnd1 t l = some d → frzC k m d
  | [], _, _, _, h => by cases h
  | (u, e) :: l, t, d, hc, h => by
    rw [fnd1_cons] at h
    by_cases hu : u = t
    · rw [if_pos hu] at h; cases h
      have h1 := hc.1
      cases e with
      | mo k' n =>
        intro e'
        subst e'
        have h1 : (match Nat.beq k' k' with | true => n = m.len | false => True) := h1
        rw [Nat.beq_refl] at h1
        exact h1
      | _ => trivial
    · rw [if_neg hu] at h; exact frzCT_get hc.2 h
theorem frzD_ok {w : World} {s s' : Sb} {g : Gh} {k sz : Nat} {m : MR} (hx : Ex w s w s') (hmo : ∀ v, (TV.mo k (D.pvss m.rows).length).P w s g v → (TV.own k sz (D.pvss m.rows)).P w s' g v) {d : D} (hc : frzC k m d) {v : Value} (hv : d.tv.P w s g v) : (frzD k sz m d).tv.P w s' g v := by
  have plain : d.tv.P w s' g v := TV.mono hx (GLe.refl g) hv
  cases d with
  | mo k' n =>
    show (match Nat.beq k' k with | true => D.own k sz m.rows | false => D.mo k' n).tv.P w s' g v
    cases hb : Nat.beq k' k with
    | false => exact plain
    | true =>
      have e := Nat.eq_of_beq_eq_true hb
      subst e
      rw [D.tv] at hv
      have hn : n = m.len := hc rfl
      rw [hn, ← MR.len_rows, ← pvss_length] at hv
      show (D.own k' sz m.rows).tv.P w s' g v
      rw [D.tv]
      exact hmo v hv
  | _ => exact plain
theorem frzL_ok {w : World} {s s' : Sb} {g : Gh} {k sz : Nat} {m : MR} (hx : Ex w s w s') (hmo : ∀ v, (TV.mo k (D.pvss m.rows).length).P w s g v → (TV.own k sz (D.pvss m.rows)).P w s' g v) : ∀ {l : List D} {vs : List Value}, frzCL k m l → AllT w s g (D.tvl l) vs → AllT w s' g (D.tvl (frzL k sz m l)) vs
  | [], vs, _, hv => by cases vs with | nil => rw [frzL, D.tvl]; trivial | cons _ _ => exact hv.elim
  | d :: l, [], _, hv => by rw [D.tvl] at hv; exact hv.elim
  | d :: l, v :: vs, hc, hv => by
    rw [D.tvl] at hv
    rw [frzL, D.tvl]
    exact ⟨frzD_ok hx hmo hc.1 hv.1, frzL_ok hx hmo hc.2 hv.2⟩
theorem frzL_one {k sz : Nat} {m : MR} : ∀ {l : List D}, (∀ d ∈ D.tvl l, d.one = true) → ∀ d ∈ D.tvl (frzL k sz m l), d.one = true
  | [], _, d, hd => by rw [frzL, D.tvl] at hd; cases hd
  | x :: l, h, d, hd => by
    rw [frzL, D.tvl] at hd
    rw [D.tvl] at h
    rcases List.mem_cons.1 hd with rfl | hd
    · have h1 := h x.tv (by simp)
      cases x with
      | mo k' n =>
        show (match Nat.beq k' k with | true => D.own k sz m.rows | false => D.mo k' n).tv.one = true
        cases Nat.beq k' k <;> rfl
      | _ => exact h1
    · exact frzL_one (fun y hy => h y (by simp [hy])) d hd
theorem frzO_fnd {k : Nat} {e : TypeId} {sz : Nat} {m : MR} : ∀ {l : List (Nat × DOwn)} {j : Nat} {c : DOwn}, fnd1 j (frzO k e sz m l) = some c → ∃ c0, fnd1 j l = some c0 ∧ ((j = k ∧ c = .row e sz m.rows.length) ∨ (j ≠ k ∧ ((∃ t cs, c0 = .box t cs ∧ c = .box t (frzL k sz m cs)) ∨ (c = c0 ∧ ∀ t cs, c0 ≠ .box t cs))))
  | [], _, _, h => by cases h
  | (i, c0) :: l, j, c, h => by
    unfold frzO at h
    have step : ∀ x : DOwn, fnd1 j ((i, x) :: frzO k e sz m l) = some c → (i = j ∧ x = c) ∨ (i ≠ j ∧ fnd1 j (frzO k e sz m l) = some c) := fun x hx => by
      rw [fnd1_cons] at hx
      by_cases hi : i = j
      · rw [if_pos hi] at hx; exact .inl ⟨hi, Option.some.inj hx⟩
      · rw [if_neg hi] at hx; exact .inr ⟨hi, hx⟩
    have rest : i ≠ j → fnd1 j (frzO k e sz m l) = some c → ∃ c0', fnd1 j ((i, c0) :: l) = some c0' ∧ ((j = k ∧ c = .row e sz m.rows.length) ∨ (j ≠ k ∧ ((∃ t cs, c0' = .box t cs ∧ c = .box t (frzL k sz m cs)) ∨ (c = c0' ∧ ∀ t cs, c0' ≠ .box t cs)))) := fun hi hx => by
      obtain ⟨c1, h1, h2⟩ := frzO_fnd hx
      exact ⟨c1, by rw [fnd1_cons, if_neg hi]; exact h1, h2⟩
    cases hb : Nat.beq i k with
    | true =>
      rw [hb] at h
      have hik := Nat.eq_of_beq_eq_true hb
      rcases step _ h with ⟨rfl, rfl⟩ | ⟨hi, hx⟩
      · exact ⟨c0, by rw [fnd1_cons]; simp, .inl ⟨hik, rfl⟩⟩
      · exact rest hi hx
    | false =>
      rw [hb] at h
      have hik : i ≠ k := by rintro rfl; rw [Nat.beq_refl] at hb; cases hb
      cases c0 with
      | box t cs =>
        rcases step _ h with ⟨rfl, rfl⟩ | ⟨hi, hx⟩
        · exact ⟨_, by rw [fnd1_cons]; simp, .inr ⟨hik, .inl ⟨t, cs, rfl, rfl⟩⟩⟩
        · exact rest hi hx
      | row _ _ _ =>
        rcases step _ h with ⟨rfl, rfl⟩ | ⟨hi, hx⟩
        · exact ⟨_, by rw [fnd1_cons]; simp, .inr ⟨hik, .inr ⟨rfl, fun _ _ h => by cases h⟩⟩⟩
        · exact rest hi hx
      | mrow _ _ _ =>
        rcases step _ h with ⟨rfl, rfl⟩ | ⟨hi, hx⟩
        · exact ⟨_, by rw [fnd1_cons]; simp, .inr ⟨hik, .inr ⟨rfl, fun _ _ h => by cases h⟩⟩⟩
        · exact rest hi hx
      | map _ =>
        rcases step _ h with ⟨rfl, rfl⟩ | ⟨hi, hx⟩
        · exact ⟨_, by rw [fnd1_cons]; simp, .inr ⟨hik, .inr ⟨rfl, fun _ _ h => by cases h⟩⟩⟩
        · exact rest hi hx
theorem frzCO_get {k : Nat} {m : MR} : ∀ {l : List (Nat × DOwn)} {j : Nat} {t : TypeId} {cs : List D}, frzCO k m l → fnd1 j l = some (.box t cs) → frzCL k m cs
  | [], _, _, _, _, h => by cases h
  | (i, c) :: l, j, t, cs, hc, h => by
    rw [fnd1_cons] at h
    by_cases hi : i = j
    · rw [if_pos hi] at h
      cases h
      exact hc.1
    · rw [if_neg hi] at h
      cases c with
      | box _ _ => exact frzCO_get (l := l) hc.2 h
      | row _ _ _ => exact frzCO_get (l := l) hc h
      | mrow _ _ _ => exact frzCO_get (l := l) hc h
      | map _ => exact frzCO_get (l := l) hc h
section
variable {P : Program} {b : Ba}
/-- A row of the call's own stops turning. -/
theorem ev_freeze (k : Nat) {e : TypeId} {sz : Nat} {m : MR} {c : Code} {tm : List (Nat × D)} {ow : List (Nat × DOwn)} {nx : Nat} {K : Exit → DS → Prop} (hk : fnd1 k ow = some (.mrow e sz m)) (hc : frzCT k m tm) (hco : frzCO k m ow)
    (h : Ev P b c ⟨frzT k sz m tm, frzO k e sz m ow, nx⟩ K) : Ev P b c ⟨tm, ow, nx⟩ K := by
  intro w s g a Q hr hK
  have hk0 : fnd k (ows ow) = some (.mrow e sz (D.pvss m.rows)) := by rw [fnd_ows, hk]; rfl
  obtain ⟨hok, hblk⟩ := hr.ow k _ hk0
  obtain ⟨p, hp, hrow, hmo⟩ := hok.freeze
  have hx : Ex w s w (s.add p) := ⟨fun _ _ h => .inl h, fun _ _ _ => rfl, fun _ _ h => .inl h⟩
  have hbk : blk g k (.row e sz (D.pvss m.rows).length) = blk g k (.mrow e sz (D.pvss m.rows)) := rfl
  have hlt : ∀ B o, p B o → B < w.heap.size := fun B o hpo => hok.lt (hp B o hpo).1
  have hkeep : ∀ {j : Nat} {c : Own}, fnd j (ows ow) = some c → j ≠ k → ∀ N o, blk g j c = some N → (s.add p) N o → s N o := fun {j c} hj hne N o hb hs => by
    rcases hs with hs | hs
    · exact hs
    · exact absurd hb (hr.sep k j _ c N hk0 hj (Ne.symm hne) (hp N o hs).1)
  have howf : ∀ {j : Nat} {c : Own}, fnd j (ows (frzO k e sz m ow)) = some c → ∃ c0, fnd j (ows ow) = some c0 ∧ Ok1 w (s.add p) g j c ∧ blk g j c = blk g j c0 := fun {j c} hj => by
    rw [fnd_ows] at hj
    cases hq : fnd1 j (frzO k e sz m ow) with
    | none => rw [hq] at hj; cases hj
    | some d =>
      rw [hq] at hj
      cases hj
      obtain ⟨c0, h1, h2⟩ := frzO_fnd hq
      have h1' : fnd j (ows ow) = some c0.o := by rw [fnd_ows, h1]; rfl
      refine ⟨c0.o, h1', ?_⟩
      rcases h2 with ⟨rfl, rfl⟩ | ⟨hne, ⟨t, cs, rfl, rfl⟩ | ⟨rfl, _⟩⟩
      · rw [hk] at h1
        cases h1
        show Ok1 w (s.add p) g j (.row e sz m.rows.length) ∧ blk g j (.row e sz m.rows.length) = blk g j (.mrow e sz (D.pvss m.rows))
        rw [← pvss_length]
        exact ⟨hrow, rfl⟩
      · obtain ⟨N, vs, g1, g2, g3, g4, g5⟩ := (hr.ow j _ h1').1
        have hns : ∀ o, ¬ (s.add p) N o := fun o ho => g5 o (hkeep h1' hne N o g1 ho)
        exact ⟨⟨N, vs, g1, g2, frzL_ok hx hmo (frzCO_get hco h1) g3, frzL_one g4, hns⟩, rfl⟩
      · exact ⟨(hr.ow j _ h1').1.keep hx (GLe.refl g) (fun _ => rfl) (fun _ _ => rfl) (fun N o hb hs => hkeep h1' hne N o hb hs), rfl⟩
  refine h w (s.add p) g a Q ⟨⟨hr.kp.ex.trans hx, fun B o hs => ?_, fun B o hs => ?_, hr.kp.os, hr.kp.tape, hr.kp.output, hr.kp.size, hr.kp.block, hr.kp.gl⟩, fun B o hs => hs.elim (hr.lt B o) (hlt B o), hr.sz, fun t d hd => ?_, fun j c hj => ?_, fun j j' c c' N h1 h2 hne hb => ?_, hr.fr, hr.df, hr.gb⟩ hK
  · rcases hs with hs | hs
    · exact hr.kp.st B o hs
    · exact .inr (hblk B (hp B o hs).1)
  · rcases hs with hs | hs
    · exact hr.kp.sst B o hs
    · exact .inr (hblk B (hp B o hs).1)
  · have hd' : fnd t (tvs (frzT k sz m tm)) = some d := hd
    rw [fnd_tvs, frzT_fnd] at hd'
    cases hq : fnd1 t tm with
    | none => rw [hq] at hd'; cases hd'
    | some x =>
      rw [hq] at hd'
      cases hd'
      obtain ⟨v, h1, h2⟩ := hr.tm t x.tv (by show fnd t (tvs tm) = _; rw [fnd_tvs, hq]; rfl)
      exact ⟨v, h1, frzD_ok hx hmo (frzCT_get hc hq) h2⟩
  · obtain ⟨c0, h1, h2, h3⟩ := howf hj
    exact ⟨h2, fun N hb => (hr.ow j c0 h1).2 N (by rw [← h3]; exact hb)⟩
  · obtain ⟨c0, e1, _, e3⟩ := howf h1
    obtain ⟨d0, f1, _, f3⟩ := howf h2
    rw [f3]
    exact hr.sep j j' c0 d0 N e1 f1 hne (by rw [← e3]; exact hb)
end
/-- Results, with what is owned. -/
def resH (T : List (Nat × TI)) (S : DS) : ResultVar → Option D
  | .tmp t => fnd1 t S.tm
  | .cell t ty => match fnd1 t S.tm with
    | some (.bp k off) => match fnd1 k S.ow with
      | some (.box _ cs) => match cls T ty with
        | some (some n) => match takeS (fun _ => true) n (dropS off cs) with
          | some r => some (.agg r)
          | none => none
        | some none => getS off cs
        | none => none
      | _ => none
    | _ => none
def finH (T : List (Nat × TI)) (S : DS) : List ResultVar → Option D
  | [] => some (.v (.tuple #[]))
  | [r] => resH T S r
  | [r, q] => match resH T S r, resH T S q with
    | some a, some b => some (.tpo [a, b])
    | _, _ => none
  | [r, q, x] => match resH T S r, resH T S q, resH T S x with
    | some a, some b, some c => some (.tpo [a, b, c])
    | _, _, _ => none
  | _ => none
def ownsLe (ks : List Nat) (kk : Nat) (ow : List (Nat × DOwn)) : Nat → List DOwn → Prop
  | _, [] => True
  | i, c :: l => (match fnd1 (rhoK ks kk i) ow with
    | some c0 => SubO c0 (c.ren (rhoK ks kk))
    | none => False) ∧ ownsLe ks kk ow (i + 1) l
def iota : Nat → List Nat
  | 0 => []
  | n + 1 => iota n ++ [n]
theorem iota_range : ∀ n, iota n = List.range n
  | 0 => rfl
  | n + 1 => by rw [iota, iota_range n, List.range_succ]
/-- The end of a function that was handed n0 things and leaves own'; kk: the number of the one that is new. -/
def FinH (T : List (Nat × TI)) (rs : List ResultVar) (n0 : Nat) (out : D) (own' : List DOwn) (ex : Exit) (S : DS) : Prop :=
  (ex = .ret ∨ ex = .normal) ∧ ∃ kk d, n0 ≤ kk ∧ finH T S rs = some d ∧ Sub d (out.ren (rhoK (iota n0) kk)) ∧ ownsLe (iota n0) kk S.ow 0 own'
theorem FinH.ret {T : List (Nat × TI)} {rs : List ResultVar} {n0 : Nat} {out d : D} {own' : List DOwn} {S : DS} (kk : Nat) (hk : Nat.ble n0 kk = true) (h : finH T S rs = some d) (hs : Sub d (out.ren (rhoK (iota n0) kk))) (ho : ownsLe (iota n0) kk S.ow 0 own') : FinH T rs n0 out own' .ret S := ⟨.inl rfl, kk, d, Nat.le_of_ble_eq_true hk, h, hs, ho⟩
theorem FinH.normal {T : List (Nat × TI)} {rs : List ResultVar} {n0 : Nat} {out d : D} {own' : List DOwn} {S : DS} (kk : Nat) (hk : Nat.ble n0 kk = true) (h : finH T S rs = some d) (hs : Sub d (out.ren (rhoK (iota n0) kk))) (ho : ownsLe (iota n0) kk S.ow 0 own') : FinH T rs n0 out own' .normal S := ⟨.inr rfl, kk, d, Nat.le_of_ble_eq_true hk, h, hs, ho⟩
theorem rho_iota (n kk i : Nat) : rhoK (iota n) kk i = if i < n then i else kk := by
  rw [iota_range]
  have : ∀ (l : List Nat) (i : Nat), rhoK l kk i = (l[i]?).getD kk := by
    intro l
    induction l with
    | nil => intro i; rfl
    | cons j l ih => intro i; cases i with | zero => rfl | succ i => simpa [rhoK] using ih i
  rw [this]
  by_cases h : i < n <;> simp [h]
theorem enum_key {l : List DOwn} {n : Nat} (hl : l.length ≤ n) (hid : ∀ c ∈ l, idO n c.o = true) : KeyOk n (ows (enumO 0 l)) := by
  have hmem : ∀ {i : Nat} {l : List DOwn} {x : Nat × DOwn}, x ∈ enumO i l → i ≤ x.1 ∧ l[x.1 - i]? = some x.2 := by
    intro i l
    induction l generalizing i with
    | nil => intro x hx; cases hx
    | cons c l ih =>
      intro x hx
      rcases List.mem_cons.1 hx with rfl | hx
      · simp
      · obtain ⟨h1, h2⟩ := ih hx
        refine ⟨by omega, ?_⟩
        rw [show x.1 - i = (x.1 - (i + 1)) + 1 by omega]; simpa using h2
  have hget : ∀ k, fnd k (ows (enumO 0 l)) = (l[k]?).map DOwn.o := fun k => by rw [fnd_ows, enumO_get]; simp
  have hm2 : ∀ x ∈ ows (enumO 0 l), ∃ c, l[x.1]? = some c ∧ x.2 = c.o := by
    intro x hx
    obtain ⟨y, hy, rfl⟩ := List.mem_map.1 hx
    exact ⟨y.2, by simpa using (hmem hy).2, rfl⟩
  refine ⟨fun x hx => ?_, fun x hx => ?_, fun k c hk => ?_⟩
  · obtain ⟨c, h1, _⟩ := hm2 x hx
    have := (List.getElem?_eq_some_iff.1 h1).1
    omega
  · obtain ⟨c, h1, h2⟩ := hm2 x hx
    rw [h2]; exact hid c (List.mem_of_getElem? h1)
  · obtain ⟨c', h1, h2⟩ := hm2 _ hk
    rw [hget, h1]
    exact congrArg some h2.symm
theorem enum_fnd (l : List DOwn) (k : Nat) : fnd k (ows (enumO 0 l)) = (l[k]?).map DOwn.o := by rw [fnd_ows, enumO_get]; simp
theorem argG_tvs : ∀ (i : Nat) (l : List D), argG i (D.tvl l) = tvs (argD i l)
  | _, [] => rfl
  | i, d :: l => by
    show (i, d.tv) :: argG (i + 1) (D.tvl l) = (i, d.tv) :: tvs (argD (i + 1) l)
    rw [argG_tvs]
section
variable {P : Program} {T : List (Nat × TI)} (hT : tabOk P T = true)
include hT
theorem resH_ok {S : DS} {r : ResultVar} {d : D} (h : resH T S r = some d) : Res1T P S.ste r d.tv := by
  unfold resH at h
  split at h
  · rename_i t
    show fnd t (tvs S.tm) = some d.tv
    rw [fnd_tvs, h]; rfl
  · rename_i t ty
    split at h
    · rename_i k off ht
      split at h
      · rename_i bt cs hk
        have h1 : fnd t S.ste.tm = some (.bp k off) := by show fnd t (tvs S.tm) = _; rw [fnd_tvs, ht]; rfl
        have h2 : fnd k S.ste.ow = some (.box bt (D.tvl cs)) := by show fnd k (ows S.ow) = _; rw [fnd_ows, hk]; rfl
        split at h
        · rename_i n hc
          split at h
          · rename_i r hr
            cases h
            obtain ⟨g1, _, g3⟩ := takeS_some hr
            rw [dropS_eq] at g1 g3
            simp only [List.length_drop] at g1
            refine ⟨k, off, bt, _, h1, h2, .inr ⟨n, (cls_row hT hc).2, by have := (cls_row hT hc).1; rw [tvl_length]; omega, ?_⟩⟩
            rw [D.tv, g3, tvl_map, tvl_map, List.map_take, List.map_drop]
          · cases h
        · rename_i hc
          rw [getS_eq] at h
          exact ⟨k, off, bt, _, h1, h2, .inl ⟨cls_one hT hc, by rw [tvl_map]; simp [h]⟩⟩
        · cases h
      · cases h
    · cases h
theorem finH_ok {S : DS} {rs : List ResultVar} {d : D} {ex : Exit} (he : ex = .ret ∨ ex = .normal) (h : finH T S rs = some d) : FinT P rs.toArray d.tv ex S.ste := by
  refine ⟨he, ?_⟩
  match rs, h with
  | [], h => cases h; rfl
  | [r], h => exact resH_ok hT h
  | [r, q], h =>
    have h : (match resH T S r, resH T S q with | some a, some b => some (D.tpo [a, b]) | _, _ => none) = some d := h
    cases ha : resH T S r with
    | none => rw [ha] at h; cases h
    | some a =>
      cases hb : resH T S q with
      | none => rw [ha, hb] at h; cases h
      | some b => rw [ha, hb] at h; cases h; exact ⟨a.tv, b.tv, resH_ok hT ha, resH_ok hT hb, rfl⟩
  | [r, q, x], h =>
    have h : (match resH T S r, resH T S q, resH T S x with | some a, some b, some c => some (D.tpo [a, b, c]) | _, _, _ => none) = some d := h
    cases ha : resH T S r with
    | none => rw [ha] at h; cases h
    | some a =>
      cases hb : resH T S q with
      | none => rw [ha, hb] at h; cases h
      | some b =>
        cases hc : resH T S x with
        | none => rw [ha, hb, hc] at h; cases h
        | some c => rw [ha, hb, hc] at h; cases h; exact ⟨a.tv, b.tv, c.tv, resH_ok hT ha, resH_ok hT hb, resH_ok hT hc, rfl⟩
  | _ :: _ :: _ :: _ :: _, h => cases h
/-- What is handed stands in order, and names nothing else. -/
def chkA (args : List D) (own : List DOwn) : Bool := match Nat.ble own.length 40 with
  | true => match idBs own.length (D.tvl args) with
    | true => idOs own.length own
    | false => false
  | false => false
theorem fnH_ev {f : FuncId} {fn : Func} {c : Code} {n : Nat} {args : List D} {own own' : List DOwn} {rs : List ResultVar} {out : D} (hf : P.funcs[f]? = some fn) (hb : fn.body = some c) (hn : fn.ntmps = n) (hr : fn.results = rs.toArray) (hm : (fn.name == "runtime.NumGoroutine") = false) (hl : Nat.ble args.length n = true) (ha : chkA args own = true) (hg : chkG own.length out own' = true)
    (h : ∀ (w0 : World) (s0 : Sb) (mx : (Nat → Prop) × Gh), Ev P ⟨w0, s0, mx.1, n, mx.2⟩ c ⟨argD 0 args, enumO 0 own, own.length⟩ (FinH T rs own.length out own')) : FnG P f args own out own' := by
  obtain ⟨c1, c2, c3, c4⟩ := chkG_ok hg
  have hA : own.length ≤ 40 ∧ idBs own.length (D.tvl args) = true ∧ ∀ c ∈ own, idO own.length c.o = true := by
    unfold chkA at ha
    cases h1 : Nat.ble own.length 40 with
    | false => rw [h1] at ha; cases ha
    | true =>
      cases h2 : idBs own.length (D.tvl args) with
      | false => rw [h1, h2] at ha; cases ha
      | true => rw [h1, h2] at ha; exact ⟨Nat.le_of_ble_eq_true h1, rfl, idOs_mem ha⟩
  obtain ⟨a1, a2, a3⟩ := hA
  refine GFun.of hf hb hn hm (by rw [tvl_length]; exact Nat.le_of_ble_eq_true hl) (enum_key (Nat.le_refl _) a3) a2 c1 a1 (enum_key (Nat.le_refl _) c4) c3 (fun k hk => ⟨_, by rw [enum_fnd, List.getElem?_eq_getElem hk]; rfl⟩) (fun k hk => ⟨_, by rw [enum_fnd, List.getElem?_eq_getElem hk]; rfl⟩) fun b hb' => ?_
  obtain ⟨w0, s0, mx, sz, g0⟩ := b
  have hb' : sz = n := hb'
  subst hb'
  intro w s g a Q hrel hK
  refine h w0 s0 (mx, g0) w s g a Q (by rw [argG_tvs] at hrel; exact hrel) fun ex w' s' g' a' S' h1 h2 => hK ex w' s' g' a' S'.ste h1 ?_
  obtain ⟨he, kk, d, hkk, hd, hs, ho⟩ := h2
  refine ⟨rhoK (iota own.length) kk, fun k hk => by rw [rho_iota, if_pos hk], fun k hk => by rw [rho_iota, if_neg (by omega)]; exact hkk, fun i j hi hj e => ?_, ⟨d.tv, ?_, fun w s g v hv => by rw [← D.ren_tv]; exact hs w s g v hv⟩, fun k c hc => ?_⟩
  · rw [rho_iota, rho_iota] at e
    by_cases h3 : i < own.length <;> by_cases h4 : j < own.length <;> simp only [h3, h4, if_true, if_false] at e <;> omega
  · rw [hr]; exact finH_ok hT he hd
  · rw [enum_fnd] at hc
    have key : ∀ {i : Nat} {l : List DOwn} {m : Nat} {c : DOwn}, ownsLe (iota own.length) kk S'.ow i l → l[m]? = some c → ∃ c0, fnd1 (rhoK (iota own.length) kk (i + m)) S'.ow = some c0 ∧ SubO c0 (c.ren (rhoK (iota own.length) kk)) := by
      intro i l
      induction l generalizing i with
      | nil => intro m c _ hm; simp at hm
      | cons x l ih =>
        intro m c hle hm
        obtain ⟨h3, h4⟩ := hle
        cases m with
        | zero =>
          simp at hm
          subst hm
          cases hq : fnd1 (rhoK (iota own.length) kk i) S'.ow with
          | none => rw [hq] at h3; exact h3.elim
          | some c0 => rw [hq] at h3; exact ⟨c0, by first | rfl | (rw [Nat.add_zero]; exact hq), h3⟩
        | succ m =>
          have := ih h4 (m := m) (by simpa using hm)
          rw [show i + (m + 1) = i + 1 + m by omega]; exact this
    cases hq : own'[k]? with
    | none => rw [hq] at hc; cases hc
    | some c' =>
      rw [hq] at hc
      cases hc
      obtain ⟨c0, h3, h4⟩ := key ho hq
      rw [Nat.zero_add] at h3
      refine ⟨c0.o, by show fnd _ (ows S'.ow) = _; rw [fnd_ows, h3]; rfl, fun w s g hok => ?_⟩
      rw [← DOwn.ren_o]
      exact h4.ok hok
end
end Go.Proofs.YtjlnanhjhfkddaaDoor
