/- What a result of a binding holds: forms of the outcome, values that stay good. -/
import Derived.Test.YtbickehhnkhabaaBd11
namespace Go.Proofs.Ytbickehhnkhabaa
open Go.RowKit

section
variable {P : Val → Prop} (hu : P unbV)
include hu
theorem getD_all {l : List Val} (h : ∀ x ∈ l, P x) (i : Nat) : P (l.getD i unbV) := by
  rw [List.getD_eq_getElem?_getD]
  cases hg : l[i]? with
  | none => exact hu
  | some x => exact h x (List.mem_of_getElem? hg)
omit hu in
theorem set_all {l : List Val} (h : ∀ x ∈ l, P x) (i : Nat) {y : Val} (hy : P y) : ∀ x ∈ l.set i y, P x := fun x hx => by
  rcases List.mem_or_eq_of_mem_set hx with h1 | rfl
  · exact h x h1
  · exact hy
omit hu in
theorem nameStep_all {ps : List Par} {st st' : BSt Val} {nm : ByteArray} {v : Val} (h : nameStep unbV isUV ps st nm v = .inr st') (h1 : ∀ x ∈ st.vals, P x) (h2 : ∀ x ∈ st.named, P x) (hv : P v) : (∀ x ∈ st'.vals, P x) ∧ ∀ x ∈ st'.named, P x := by
  unfold nameStep at h
  repeat' (split at h)
  all_goals first
    | (cases h; done)
    | (simp only [Sum.inr.injEq] at h; subst h; first | exact ⟨set_all h1 _ hv, h2⟩ | exact ⟨h1, fun x hx => by rcases List.mem_append.1 hx with hx | hx; exact h2 x hx; rw [List.mem_singleton.1 hx]; exact hv⟩)
omit hu in
theorem namesGo_all {ps : List Par} : ∀ (nv : List (ByteArray × Val)) (st st' : BSt Val), namesGo unbV isUV ps st nv = .inr st' → (∀ x ∈ st.vals, P x) → (∀ x ∈ st.named, P x) → (∀ x ∈ nv, P x.2) → (∀ x ∈ st'.vals, P x) ∧ ∀ x ∈ st'.named, P x := by
  intro nv
  induction nv with
  | nil => intro st st' h h1 h2 _; unfold namesGo at h; simp only [Sum.inr.injEq] at h; subst h; exact ⟨h1, h2⟩
  | cons y nv ih =>
    intro st st' h h1 h2 h3
    obtain ⟨nm, v⟩ := y
    unfold namesGo at h
    cases hs : nameStep unbV isUV ps st nm v with
    | inl m => rw [hs] at h; cases h
    | inr st1 =>
      rw [hs] at h
      have h4 := nameStep_all hs h1 h2 (h3 _ (List.mem_cons_self ..))
      exact ih st1 st' h h4.1 h4.2 (fun x hx => h3 x (List.mem_cons_of_mem _ hx))
theorem restGo_all : ∀ (ps : List Par) (i : Nat) (vals ds vals' : List Val), restGo unbV isUV i vals ds ps = .inr vals' → (∀ x ∈ vals, P x) → (∀ x ∈ ds, P x) → ∀ x ∈ vals', P x := by
  intro ps
  induction ps with
  | nil => intro i vals ds vals' h h1 _; unfold restGo at h; simp only [Sum.inr.injEq] at h; subst h; exact h1
  | cons p ps ih =>
    intro i vals ds vals' h h1 h2
    unfold restGo at h
    have h3 : ∀ x ∈ ds.drop p.n, P x := fun x hx => h2 x (List.mem_of_mem_drop hx)
    split at h
    · exact ih _ _ _ _ h h1 h3
    · split at h
      · cases h
      · exact ih _ _ _ _ h (set_all h1 _ (getD_all hu h2 0)) h3
theorem bindF_all {ps : List Par} {ds l : List Val} {nv : List (ByteArray × Val)} {st : BSt Val} {rest : List Val} (h : bindF unbV isUV ps ds l nv = .inr (st, rest)) (h1 : ∀ x ∈ l, P x) (h2 : ∀ x ∈ ds, P x) (h3 : ∀ x ∈ nv, P x.2) :
    (∀ x ∈ st.vals, P x) ∧ (∀ x ∈ rest, P x) ∧ ∀ x ∈ st.named, P x := by
  rw [bindF_cont] at h
  split at h
  · cases h
  · unfold contF at h
    cases hn : namesGo unbV isUV ps ⟨startV unbV ps l, [], []⟩ nv with
    | inl m => rw [hn] at h; cases h
    | inr st1 =>
      rw [hn] at h
      simp only at h
      have hs : ∀ x ∈ startV unbV ps l, P x := fun x hx => by
        unfold startV at hx
        rcases List.mem_append.1 hx with hx | hx
        · exact h1 x (List.mem_of_mem_take hx)
        · rw [List.eq_of_mem_replicate hx]; exact hu
      have h4 := namesGo_all nv _ _ hn hs (fun x hx => by simp at hx) h3
      cases hr : restGo unbV isUV 0 st1.vals ds ps with
      | inl m => rw [hr] at h; cases h
      | inr vals =>
        rw [hr] at h
        simp only [Sum.inr.injEq, Prod.mk.injEq] at h
        obtain ⟨rfl, rfl⟩ := h
        exact ⟨restGo_all hu ps 0 _ _ _ hr h4.1 h2, fun x hx => h1 x (List.mem_of_mem_drop hx), h4.2⟩
end

theorem bindFF_zero {ps : List Par} {dn nn : Nat} {l named : List Val} (h : (bindFF ps dn l nn named).1 = 0) :
    (parF ps).1 = 0 ∧ sumN ps = dn ∧ nn = named.length ∧ l.length + nn ≤ 1000 ∧ (∀ x ∈ l, isUV x = false) ∧ (∀ x ∈ named, isUV x = false) ∧ bindFF ps dn l nn named = (0, 0) := by
  unfold bindFF at h ⊢
  by_cases h1 : (parF ps).1 ≠ 0
  · rw [if_pos h1] at h; exact absurd h h1
  · rw [if_neg h1] at h ⊢
    by_cases h2 : sumN ps ≠ dn
    · rw [if_pos h2] at h; simp at h
    · rw [if_neg h2] at h ⊢
      by_cases h3 : nn ≠ named.length
      · rw [if_pos h3] at h; simp at h
      · rw [if_neg h3] at h ⊢
        by_cases h4 : 1000 < l.length + nn
        · rw [if_pos h4] at h; simp at h
        · rw [if_neg h4] at h ⊢
          cases h5 : l.findIdx? isUV with
          | some k => rw [h5] at h; simp at h
          | none =>
            rw [h5] at h
            cases h6 : named.findIdx? isUV with
            | some k => rw [h6] at h; simp at h
            | none =>
              rw [List.findIdx?_eq_none_iff] at h5 h6
              exact ⟨by simpa using h1, by simpa using h2, by simpa using h3, by omega, h5, h6, rfl⟩

theorem BoundAt.nil (w : World) : BoundAt w (.slice none 0 0) (.slice none 0 0) (.slice none 0 0) (.slice none 0 0) [] [] [] [] :=
  ⟨RowS.nil 7 w, RowS.nil 7 w, ⟨none, 0, rfl, Nat.le_refl _, by omega, fun i h => by simp at h⟩, RowS.nil 7 w⟩

theorem BoundAt.slices {w : World} {v0 v1 v2 v3 : Value} {vals rest : List Val} {names : List ByteArray} {named : List Val} (h : BoundAt w v0 v1 v2 v3 vals rest names named) :
    ∃ a0 n0 c0 a1 n1 c1 a2 n2 c2 a3 n3 c3, v0 = .slice a0 n0 c0 ∧ v1 = .slice a1 n1 c1 ∧ v2 = .slice a2 n2 c2 ∧ v3 = .slice a3 n3 c3 := by
  obtain ⟨a0, c0, h0⟩ := h.vals.isSlice
  obtain ⟨a1, c1, h1⟩ := h.rest.isSlice
  obtain ⟨a2, n2, c2, h2⟩ := RowOf.isSlice h.names
  obtain ⟨a3, c3, h3⟩ := h.named.isSlice
  exact ⟨_, _, _, _, _, _, _, _, _, _, _, _, h0, h1, h2, h3⟩

/-- What a result of a binding holds. -/
def ResOf (fn : ByteArray) (x : BMsg ⊕ (BSt Val × List Val)) (t : ByteArray) (vals rest : List Val) (nms : List ByteArray) (nmd : List Val) : Prop :=
  (∃ m, x = .inl m ∧ t = msgT fn m ∧ vals = [] ∧ rest = [] ∧ nms = [] ∧ nmd = []) ∨ x = .inr (⟨vals, nms, nmd⟩, rest) ∧ t = ⟨#[]⟩
theorem ResOf.same {fn : ByteArray} {x : BMsg ⊕ (BSt Val × List Val)} {t t' : ByteArray} {vals rest vals' rest' : List Val} {nms nms' : List ByteArray} {nmd nmd' : List Val} (h : ResOf fn x t vals rest nms nmd) (h' : ResOf fn x t' vals' rest' nms' nmd') :
    t' = t ∧ vals' = vals ∧ rest' = rest ∧ nms' = nms ∧ nmd' = nmd := by
  rcases h with ⟨m, rfl, rfl, rfl, rfl, rfl, rfl⟩ | ⟨rfl, rfl⟩ <;> rcases h' with ⟨m', e, rfl, rfl, rfl, rfl, rfl⟩ | ⟨e, rfl⟩
  · cases e; exact ⟨rfl, rfl, rfl, rfl, rfl⟩
  · cases e
  · cases e
  · cases e; exact ⟨rfl, rfl, rfl, rfl, rfl⟩
theorem BindPost.form {w w' : World} {fn : ByteArray} {ps : List Par} {ds l : List Val} {names : List ByteArray} {named : List Val} {e : Ending} (h : BindPost w fn ps ds l names named e w') :
    ∃ b0 b1 b2 b3 t c i vals rest nms nmd, e = .returned (.tuple #[.agg #[b0, b1, b2, b3], .string t, faultV c i]) ∧ bindFF ps ds.length l names.length named = (c, i) ∧ BoundAt w' b0 b1 b2 b3 vals rest nms nmd ∧
      ((c ≠ 0 ∧ t = ⟨#[]⟩ ∧ vals = [] ∧ rest = [] ∧ nms = [] ∧ nmd = []) ∨ (c = 0 ∧ ResOf fn (bindF unbV isUV ps ds l (names.zip named)) t vals rest nms nmd)) := by
  rcases h.2 with ⟨hne, rfl⟩ | ⟨hz, ⟨m, hb, rfl⟩ | ⟨st, rest, vv, rv, nv, mv, hb, rfl, hB⟩⟩
  · exact ⟨_, _, _, _, _, _, _, [], [], [], [], rfl, rfl, BoundAt.nil w', .inl ⟨hne, rfl, rfl, rfl, rfl, rfl⟩⟩
  · exact ⟨_, _, _, _, _, _, _, [], [], [], [], rfl, (bindFF_zero hz).2.2.2.2.2.2, BoundAt.nil w', .inr ⟨rfl, .inl ⟨m, hb, rfl, rfl, rfl, rfl, rfl⟩⟩⟩
  · exact ⟨_, _, _, _, _, _, _, st.vals, rest, st.names, st.named, rfl, (bindFF_zero hz).2.2.2.2.2.2, hB, .inr ⟨rfl, .inr ⟨hb, rfl⟩⟩⟩
end Go.Proofs.Ytbickehhnkhabaa
