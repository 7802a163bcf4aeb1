/- Part 23 of the proof. -/
import Derived.Test.YtfkaepjlmgolhaaGreatDoorM6

/- The evaluator: a nil slice in a box; rows told in other words. Nothing here speaks of the program. -/
namespace Go.Proofs.YtfkaepjlmgolhaaGreatDoor
open Go.RowKit

def RowsP : List (List D) → List (List D) → Prop
  | [], [] => True
  | r :: l, r' :: l' => SubPs r r' ∧ RowsP l l'
  | _, _ => False
theorem RowsP.refl : ∀ l, RowsP l l
  | [] => trivial
  | r :: l => ⟨SubPs.refl r, RowsP.refl l⟩
theorem RowsP.append : ∀ {a b a' b' : List (List D)}, RowsP a a' → RowsP b b' → RowsP (a ++ b) (a' ++ b')
  | [], _, [], _, _, h => h
  | _ :: _, _, _ :: _, _, h, h' => ⟨h.1, h.2.append h'⟩
  | [], _, _ :: _, _, h, _ => h.elim
  | _ :: _, _, [], _, h, _ => h.elim
theorem SubPs.len : ∀ {l l' : List D}, SubPs l l' → l.length = l'.length
  | [], [], _ => rfl
  | _ :: _, _ :: _, h => by simp [h.2.len]
  | [], _ :: _, h => h.elim
  | _ :: _, [], h => h.elim
theorem SubPs.get : ∀ {l l' : List D}, SubPs l l' → ∀ {j : Nat} {d' : D}, l'[j]? = some d' → ∃ d, l[j]? = some d ∧ SubP d d'
  | [], [], _, j, d', hd => by simp at hd
  | d :: l, e :: l', h, 0, d', hd => by simp at hd; subst hd; exact ⟨d, rfl, h.1⟩
  | d :: l, e :: l', h, j + 1, d', hd => by simpa using h.2.get (by simpa using hd)
  | [], _ :: _, h, _, _, _ => h.elim
  | _ :: _, [], h, _, _, _ => h.elim
theorem RowsP.len : ∀ {l l' : List (List D)}, RowsP l l' → l.length = l'.length
  | [], [], _ => rfl
  | _ :: _, _ :: _, h => by simp [h.2.len]
  | [], _ :: _, h => h.elim
  | _ :: _, [], h => h.elim
theorem RowsP.get : ∀ {l l' : List (List D)}, RowsP l l' → ∀ {j : Nat} {d' : List D}, l'[j]? = some d' → ∃ d, l[j]? = some d ∧ SubPs d d'
  | [], [], _, j, d', hd => by simp at hd
  | d :: l, e :: l', h, 0, d', hd => by simp at hd; subst hd; exact ⟨d, rfl, h.1⟩
  | d :: l, e :: l', h, j + 1, d', hd => by simpa using h.2.get (by simpa using hd)
  | [], _ :: _, h, _, _, _ => h.elim
  | _ :: _, [], h, _, _, _ => h.elim
theorem rowsP_sl {sz : Nat} {rows rows' : List (List D)} (h : RowsP rows rows') {w : World} {s : Sb} {v : Value} (hv : (PV.sl sz (D.pvss rows)).p w s v) : (PV.sl sz (D.pvss rows')).p w s v := by
  obtain ⟨a, cap, rfl, h2, h3, h4, h5⟩ := hv
  rw [pvss_length] at h2
  refine ⟨a, cap, by rw [pvss_length, pvss_length, h.len], by rw [pvss_length, ← h.len]; exact h2, h3, fun row hrow => ?_, fun i row hr => ?_⟩
  · rw [pvss_map] at hrow
    obtain ⟨r', hr', rfl⟩ := List.mem_map.1 hrow
    obtain ⟨j, hj⟩ := List.getElem?_of_mem hr'
    obtain ⟨r, hr, hs⟩ := h.get hj
    rw [pvs_length, ← hs.len, ← pvs_length]
    exact h4 _ (by rw [pvss_map]; exact List.mem_map.2 ⟨r, List.mem_of_getElem? hr, rfl⟩)
  · rw [pvss_map, List.getElem?_map] at hr
    cases hq : rows'[i]? with
    | none => rw [hq] at hr; cases hr
    | some r' =>
      rw [hq] at hr; cases hr
      obtain ⟨r, hr, hs⟩ := h.get hq
      obtain ⟨b, off, e1, hc⟩ := h5 i (D.pvs r) (by rw [pvss_map, List.getElem?_map, hr]; rfl)
      refine ⟨b, off, e1, fun j d hd => ?_⟩
      rw [pvs_map, List.getElem?_map] at hd
      cases hq2 : r'[j]? with
      | none => rw [hq2] at hd; cases hd
      | some d' =>
        rw [hq2] at hd; cases hd
        obtain ⟨d0, hd0, hsub⟩ := hs.get hq2
        obtain ⟨u, g1, g2, g3, g4⟩ := hc j d0.pv (by rw [pvs_map, List.getElem?_map, hd0]; rfl)
        exact ⟨u, g1, g2, hsub _ _ _ g3, g4⟩
theorem Sub.ownRows {k sz : Nat} {rows rows' : List (List D)} (h : RowsP rows rows') : Sub (.own k sz rows) (.own k sz rows') := by
  intro w s g v hv
  rw [D.tv, TV.P] at hv ⊢
  refine ⟨rowsP_sl h hv.1, ?_⟩
  have := hv.2
  rw [pvss_length] at this ⊢
  rw [← h.len]; exact this
def setD : Nat → D → List D → List D
  | _, _, [] => []
  | 0, d, _ :: l => d :: l
  | n + 1, d, x :: l => x :: setD n d l
theorem setD_all {w : World} {s : Sb} {g g' : Gh} {d : D} (hg : GLe g g') (hd : d.tv.P w s g' (.slice none 0 0)) : ∀ {n : Nat} {l : List D} {vs : List Value}, getS n l = some (.v (.slice none 0 0)) → AllT w s g (D.tvl l) vs → AllT w s g' (D.tvl (setD n d l)) vs
  | _, [], _, h, _ => by simp [getS] at h
  | _, _ :: _, [], _, hv => by rw [D.tvl] at hv; simp [AllT] at hv
  | 0, x :: l, v :: vs, h, hv => by
    simp only [getS, Option.some.injEq] at h
    subst h
    rw [D.tvl, AllT] at hv
    have h1 : v = .slice none 0 0 := hv.1
    subst h1
    rw [setD, D.tvl, AllT]
    exact ⟨hd, AllT.mono (Ex.refl w s) hg hv.2⟩
  | n + 1, x :: l, v :: vs, h, hv => by
    rw [D.tvl, AllT] at hv
    rw [setD, D.tvl, AllT]
    exact ⟨TV.mono (Ex.refl w s) hg hv.1, setD_all hg hd (by simpa [getS] using h) hv.2⟩
theorem setD_one {d : D} (hd : d.one = true) : ∀ {n : Nat} {l : List D}, (∀ x ∈ D.tvl l, x.one = true) → ∀ x ∈ D.tvl (setD n d l), x.one = true
  | _, [], h => by cases ‹Nat› <;> exact h
  | 0, y :: l, h => by
    rw [setD, D.tvl]
    rw [D.tvl] at h
    intro x hx
    rcases List.mem_cons.1 hx with rfl | hx
    · exact D.tv_one hd
    · exact h x (List.mem_cons_of_mem _ hx)
  | n + 1, y :: l, h => by
    rw [setD, D.tvl]
    rw [D.tvl] at h
    intro x hx
    rcases List.mem_cons.1 hx with rfl | hx
    · exact h _ List.mem_cons_self
    · exact setD_one hd (fun z hz => h z (List.mem_cons_of_mem _ hz)) x hx
section
variable {P : Program} {b : Ba}
/-- A nil slice in a cell of a box becomes a row of the call's own. -/
theorem ev_nilCell (k off : Nat) (ty : TypeId) (sz : Nat) {c : Code} {tm : List (Nat × D)} {ow : List (Nat × DOwn)} {nx : Nat} {K : Exit → DS → Prop} {bt : TypeId} {cs : List D} (hk : fnd1 k ow = some (.box bt cs)) (ht : getS off cs = some (.v (.slice none 0 0)))
    (h : Ev P b c ⟨tm, (nx, .row ty sz 0) :: (k, .box bt (setD off (.own nx sz []) cs)) :: ow, nx + 1⟩ K) : Ev P b c ⟨tm, ow, nx⟩ K := by
  intro w s g a Q hr hK
  have hfr := hr.fr nx (Nat.le_refl _)
  have hst := Stp.ghostRow (w := w) (s := s) (k := nx) (sz := sz) (e := ty) hr.lt hfr
  have hk0 : fnd k (ows ow) = some (.box bt (D.tvl cs)) := by rw [fnd_ows, hk]; rfl
  have hkn : k ≠ nx := by have := hr.owLt hk0; rintro rfl; exact Nat.lt_irrefl _ this
  have hown : (D.own nx sz []).tv.P w s (g.setRow nx 0 (.slice none 0 0)) (.slice none 0 0) := by
    rw [D.tv, TV.P]; exact ⟨PV.sl_nil, Gh.setRow_eq _ _ _ _⟩
  have key : ∀ {j : Nat} {x : Own}, fnd j ((nx, Own.row ty sz 0) :: (k, Own.box bt (D.tvl (setD off (.own nx sz []) cs))) :: ows ow) = some x →
      (j = nx ∧ x = .row ty sz 0) ∨ (j ≠ nx ∧ ∃ x0, fnd j (ows ow) = some x0 ∧ blk (g.setRow nx 0 (.slice none 0 0)) j x = blk g j x0 ∧ Ok1 w s (g.setRow nx 0 (.slice none 0 0)) j x) := by
    intro j x hj
    rw [fnd_cons] at hj
    by_cases hjn : nx = j
    · simp only [hjn, if_true] at hj; cases hj; exact .inl ⟨hjn.symm, rfl⟩
    · simp only [hjn, if_false] at hj
      rw [fnd_cons] at hj
      by_cases hjk : k = j
      · simp only [hjk, if_true] at hj
        cases hj
        subst hjk
        obtain ⟨N, vs, g1, g2, g3, g4, g5⟩ := (hr.ow k _ hk0).1
        exact .inr ⟨Ne.symm hjn, _, hk0, rfl, N, vs, g1, g2, setD_all hst.gle hown ht g3, setD_one rfl g4, g5⟩
      · simp only [hjk, if_false] at hj
        have h1 := (hr.ow j x hj).1
        have hsame := hst.same j (by rw [fnd_cons]; simp [hjn, fnd])
        exact .inr ⟨Ne.symm hjn, x, hj, blk_keep h1 hst.gle, h1.keep (Ex.refl w s) hst.gle hsame.2 (fun _ _ => rfl) (fun _ _ _ h => h)⟩
  refine h w s (g.setRow nx 0 (.slice none 0 0)) a Q ⟨hr.kp, hr.lt, hr.sz, fun u d hd => ?_, fun j x hj => ?_, fun j j' x x' N hj hj' hne hb => ?_, fun j hj => ?_, hr.df⟩ hK
  · obtain ⟨v, h1, h2⟩ := hr.tm u d hd
    exact ⟨v, h1, TV.mono (Ex.refl w s) hst.gle h2⟩
  · rcases key hj with ⟨rfl, rfl⟩ | ⟨_, x0, g1, g2, g3⟩
    · refine ⟨hst.ok _ _ (by rw [fnd_cons]; simp), fun N hN => ?_⟩
      rw [blk_row (Gh.setRow_eq _ _ _ _)] at hN
      cases hN
    · exact ⟨g3, fun N hN => (hr.ow j x0 g1).2 N (by rw [← g2]; exact hN)⟩
  · intro hb'
    rcases key hj with ⟨rfl, rfl⟩ | ⟨_, x0, g1, g2, g3⟩
    · rw [blk_row (Gh.setRow_eq _ _ _ _)] at hb; cases hb
    · rcases key hj' with ⟨rfl, rfl⟩ | ⟨_, x1, g4, g5, g6⟩
      · rw [blk_row (Gh.setRow_eq _ _ _ _)] at hb'; cases hb'
      · rw [g2] at hb
        rw [g5] at hb'
        exact hr.sep j j' x0 x1 N g1 g4 hne hb hb'
  · have hj' : nx + 1 ≤ j := hj
    obtain ⟨f1, f2⟩ := hr.fr j (by show nx ≤ j; omega)
    exact ⟨f1, fun m => by rw [Gh.setRow_ne _ _ (by omega)]; exact f2 m⟩
end
end Go.Proofs.YtfkaepjlmgolhaaGreatDoor
