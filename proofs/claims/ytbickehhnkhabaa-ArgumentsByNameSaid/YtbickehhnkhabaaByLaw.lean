/- The plain law of ArgumentsByName: a positional argument given by its name, and named arguments in another order. -/
import Derived.Test.YtbickehhnkhabaaBindLaw
namespace Go.Proofs.Ytbickehhnkhabaa

section
variable {V : Type} {u : V} {isU : V → Bool} {ps : List Par}

/-- Two bindings alike but for the order of the names that are left. -/
structure RelB (s t : BSt V) : Prop where
  vals : t.vals = s.vals
  l1 : s.names.length = s.named.length
  l2 : t.names.length = t.named.length
  perm : (s.names.zip s.named).Perm (t.names.zip t.named)

theorem RelB.names {s t : BSt V} (h : RelB s t) : s.names.Perm t.names := by
  have h1 := h.perm.map Prod.fst
  rw [List.map_fst_zip (by rw [h.l1]; exact Nat.le_refl _), List.map_fst_zip (by rw [h.l2]; exact Nat.le_refl _)] at h1
  exact h1
theorem RelB.any {s t : BSt V} (h : RelB s t) (p : ByteArray → Bool) : t.names.any p = s.names.any p := by
  rw [Bool.eq_iff_iff, List.any_eq_true, List.any_eq_true]
  constructor
  · rintro ⟨x, hx, hp⟩; exact ⟨x, h.names.mem_iff.2 hx, hp⟩
  · rintro ⟨x, hx, hp⟩; exact ⟨x, h.names.mem_iff.1 hx, hp⟩
theorem RelB.refl {s : BSt V} (h : s.names.length = s.named.length) : RelB s s := ⟨rfl, h, h, List.Perm.refl _⟩
theorem RelB.trans {s t r : BSt V} (h : RelB s t) (h' : RelB t r) : RelB s r := ⟨h'.vals.trans h.vals, h.l1, h'.l2, h.perm.trans h'.perm⟩
theorem RelB.push {s t : BSt V} (h : RelB s t) (nm : ByteArray) (v : V) : RelB { s with names := s.names ++ [nm], named := s.named ++ [v] } { t with names := t.names ++ [nm], named := t.named ++ [v] } := by
  refine ⟨h.vals, by simp [h.l1], by simp [h.l2], ?_⟩
  simp only
  rw [List.zip_append h.l1, List.zip_append h.l2]
  exact h.perm.append_right _

/-- When a step goes through, and what it leaves. -/
theorem step_iff {st st' : BSt V} {nm : ByteArray} {v : V} : nameStep u isU ps st nm v = .inr st' ↔ st.names.any (sameN nm) = false ∧
    ((∃ k, atN ps nm = some k ∧ isU (st.vals.getD k u) = true ∧ st' = { st with vals := st.vals.set k v }) ∨ (atN ps nm = none ∧ hasPairs ps = true ∧ st' = { st with names := st.names ++ [nm], named := st.named ++ [v] })) := by
  unfold nameStep
  cases ha : atN ps nm with
  | some k =>
    simp only [Option.some.injEq, reduceCtorEq, false_and, or_false, exists_eq_left']
    cases isU (st.vals.getD k u) <;> cases st.names.any (sameN nm) <;> simp [eq_comm]
  | none =>
    simp only [reduceCtorEq, false_and, exists_false, false_or, true_and]
    cases hasPairs ps <;> cases st.names.any (sameN nm) <;> simp [eq_comm]

theorem step_rel {s t s' : BSt V} (h : RelB s t) {nm : ByteArray} {v : V} (hs : nameStep u isU ps s nm v = .inr s') : ∃ t', nameStep u isU ps t nm v = .inr t' ∧ RelB s' t' := by
  rw [step_iff] at hs
  obtain ⟨hn, ⟨k, ha, hu, rfl⟩ | ⟨ha, hp, rfl⟩⟩ := hs
  · exact ⟨_, step_iff.2 ⟨by rw [h.any]; exact hn, .inl ⟨k, ha, by rw [h.vals]; exact hu, rfl⟩⟩, ⟨by simp only [h.vals], h.l1, h.l2, h.perm⟩⟩
  · exact ⟨_, step_iff.2 ⟨by rw [h.any]; exact hn, .inr ⟨ha, hp, rfl⟩⟩, h.push nm v⟩
theorem go_rel : ∀ (nv : List (ByteArray × V)) {s t s' : BSt V}, RelB s t → namesGo u isU ps s nv = .inr s' → ∃ t', namesGo u isU ps t nv = .inr t' ∧ RelB s' t'
  | [], s, t, s', h, hs => by
    simp only [namesGo, Sum.inr.injEq] at hs ⊢
    subst hs
    exact ⟨t, rfl, h⟩
  | (nm, v) :: nv, s, t, s', h, hs => by
    unfold namesGo at hs ⊢
    cases h1 : nameStep u isU ps s nm v with
    | inl m => rw [h1] at hs; cases hs
    | inr s1 =>
      rw [h1] at hs
      obtain ⟨t1, h2, h3⟩ := step_rel h h1
      rw [h2]
      exact go_rel nv h3 hs

theorem any_push {l : List ByteArray} {a nm : ByteArray} : (l ++ [a]).any (sameN nm) = (l.any (sameN nm) || sameN nm a) := by simp

theorem swap_steps {s s1 s2 : BSt V} (hl : s.names.length = s.named.length) (hvl : s.vals.length = ps.length) {a b : ByteArray} {va vb : V} (hva : isU va = false) (h1 : nameStep u isU ps s a va = .inr s1) (h2 : nameStep u isU ps s1 b vb = .inr s2) :
    ∃ t1 t2, nameStep u isU ps s b vb = .inr t1 ∧ nameStep u isU ps t1 a va = .inr t2 ∧ RelB s2 t2 := by
  rw [step_iff] at h1 h2
  obtain ⟨hn1, h1⟩ := h1
  obtain ⟨hn2, h2⟩ := h2
  rcases h1 with ⟨k, ha, hua, rfl⟩ | ⟨ha, hp, rfl⟩ <;> rcases h2 with ⟨j, hb, hub, rfl⟩ | ⟨hb, hp2, rfl⟩
  · have hkj : k ≠ j := by
      rintro rfl
      simp only at hub
      obtain ⟨hk2, -, -⟩ := at_some ha
      rw [getD_set_eq (by omega), hva] at hub; cases hub
    simp only at hub
    rw [getD_set_ne hkj] at hub
    have e1 : isU ((s.vals.set j vb).getD k u) = true := by rw [getD_set_ne hkj.symm]; exact hua
    refine ⟨{ s with vals := s.vals.set j vb }, { s with vals := (s.vals.set j vb).set k va }, step_iff.2 ⟨hn2, .inl ⟨j, hb, hub, rfl⟩⟩, step_iff.2 ⟨hn1, .inl ⟨k, ha, e1, rfl⟩⟩, ?_⟩
    refine ⟨?_, hl, hl, List.Perm.refl _⟩
    simp only
    exact (List.set_comm _ _ hkj).symm
  · have e1 : (s.names ++ [b]).any (sameN a) = false := by
      rw [any_push, hn1, Bool.false_or]
      cases hx : sameN a b with
      | false => rfl
      | true => rw [sameN_iff.1 hx, ha] at hb; cases hb
    exact ⟨{ s with names := s.names ++ [b], named := s.named ++ [vb] }, { vals := s.vals.set k va, names := s.names ++ [b], named := s.named ++ [vb] }, step_iff.2 ⟨hn2, .inr ⟨hb, hp2, rfl⟩⟩, step_iff.2 ⟨e1, .inl ⟨k, ha, hua, rfl⟩⟩, rfl, by simp [hl], by simp [hl], List.Perm.refl _⟩
  · have e1 : s.names.any (sameN b) = false := by rw [any_push, Bool.or_eq_false_iff] at hn2; exact hn2.1
    exact ⟨{ s with vals := s.vals.set j vb }, { vals := s.vals.set j vb, names := s.names ++ [a], named := s.named ++ [va] }, step_iff.2 ⟨e1, .inl ⟨j, hb, hub, rfl⟩⟩, step_iff.2 ⟨hn1, .inr ⟨ha, hp, rfl⟩⟩, rfl, by simp [hl], by simp [hl], List.Perm.refl _⟩
  · rw [any_push, Bool.or_eq_false_iff] at hn2
    have e1 : (s.names ++ [b]).any (sameN a) = false := by
      rw [any_push, hn1, Bool.false_or]
      cases hx : sameN a b with
      | false => rfl
      | true => rw [sameN_iff.1 hx, sameN_iff.2 rfl] at hn2; cases hn2.2
    refine ⟨{ s with names := s.names ++ [b], named := s.named ++ [vb] }, { vals := s.vals, names := s.names ++ [b] ++ [a], named := s.named ++ [vb] ++ [va] }, step_iff.2 ⟨hn2.1, .inr ⟨hb, hp2, rfl⟩⟩, step_iff.2 ⟨e1, .inr ⟨ha, hp, rfl⟩⟩, rfl, by simp [hl], by simp [hl], ?_⟩
    simp only [List.append_assoc, List.singleton_append]
    rw [List.zip_append hl, List.zip_append hl]
    exact (List.Perm.swap _ _ _).append_left _

/-- What a step keeps. -/
theorem step_len2 {s s' : BSt V} {nm : ByteArray} {v : V} (h : nameStep u isU ps s nm v = .inr s') (hl : s.names.length = s.named.length) : s'.vals.length = s.vals.length ∧ s'.names.length = s'.named.length := by
  rw [step_iff] at h
  obtain ⟨_, ⟨k, _, _, rfl⟩ | ⟨_, _, rfl⟩⟩ := h
  · exact ⟨by simp, hl⟩
  · exact ⟨rfl, by simp [hl]⟩

theorem go_perm {nv nv' : List (ByteArray × V)} (hp : nv.Perm nv') : ∀ {s s' : BSt V}, s.vals.length = ps.length → s.names.length = s.named.length → (∀ x ∈ nv, isU x.2 = false) → namesGo u isU ps s nv = .inr s' →
    ∃ t', namesGo u isU ps s nv' = .inr t' ∧ RelB s' t' := by
  induction hp with
  | nil => intro s s' _ hl _ h; simp only [namesGo, Sum.inr.injEq] at h ⊢; subst h; exact ⟨s, rfl, RelB.refl hl⟩
  | cons x _ ih =>
    intro s s' hv hl hu h
    obtain ⟨nm, v⟩ := x
    unfold namesGo at h ⊢
    cases h1 : nameStep u isU ps s nm v with
    | inl m => rw [h1] at h; cases h
    | inr s1 =>
      rw [h1] at h
      have h2 := step_len2 h1 hl
      exact ih (h2.1.trans hv) h2.2 (fun y hy => hu y (List.mem_cons_of_mem _ hy)) h
  | swap x y l =>
    intro s s' hv hl hu h
    obtain ⟨a, va⟩ := x
    obtain ⟨b, vb⟩ := y
    unfold namesGo at h
    cases h1 : nameStep u isU ps s b vb with
    | inl m => rw [h1] at h; cases h
    | inr s1 =>
      rw [h1] at h
      simp only at h
      unfold namesGo at h
      cases h2 : nameStep u isU ps s1 a va with
      | inl m => rw [h2] at h; cases h
      | inr s2 =>
        rw [h2] at h
        simp only at h
        obtain ⟨t1, t2, e1, e2, hr⟩ := swap_steps hl hv (hu (b, vb) (by simp)) h1 h2
        obtain ⟨t', e3, hr'⟩ := go_rel l hr h
        refine ⟨t', ?_, hr'⟩
        unfold namesGo
        rw [e1]
        simp only
        unfold namesGo
        rw [e2]
        exact e3
  | trans _ _ ih1 ih2 =>
    rename_i l1 l2 l3 hp1 _
    intro s s' hv hl hu h
    obtain ⟨t1, e1, r1⟩ := ih1 hv hl hu h
    obtain ⟨t2, e2, r2⟩ := ih2 hv hl (fun x hx => hu x (hp1.mem_iff.2 hx)) e1
    exact ⟨t2, e2, r1.trans r2⟩

/-- A bound place can be left out and comes out as it was. -/
theorem go_unset {m : Nat} : ∀ (nv : List (ByteArray × V)) {s s' : BSt V}, isU (s.vals.getD m u) = false → namesGo u isU ps s nv = .inr s' →
    namesGo u isU ps { s with vals := s.vals.set m u } nv = .inr { s' with vals := s'.vals.set m u } ∧ s'.vals.getD m u = s.vals.getD m u
  | [], s, s', _, h => by
    simp only [namesGo, Sum.inr.injEq] at h ⊢
    subst h
    exact ⟨rfl, rfl⟩
  | (nm, v) :: nv, s, s', hb, h => by
    unfold namesGo at h
    cases h1 : nameStep u isU ps s nm v with
    | inl x => rw [h1] at h; cases h
    | inr s1 =>
      rw [h1] at h
      simp only at h
      rw [step_iff] at h1
      obtain ⟨hn, ⟨k, ha, hu, rfl⟩ | ⟨ha, hp, rfl⟩⟩ := h1
      · have hkm : k ≠ m := by rintro rfl; rw [hb] at hu; cases hu
        have e0 : isU ((s.vals.set k v).getD m u) = false := by rw [getD_set_ne hkm]; exact hb
        have ih := go_unset nv e0 h
        have e1 : nameStep u isU ps { s with vals := s.vals.set m u } nm v = .inr { s with vals := (s.vals.set k v).set m u } := step_iff.2 ⟨hn, .inl ⟨k, ha, by simp only; rw [getD_set_ne hkm.symm]; exact hu, by simp only; rw [List.set_comm _ _ hkm]⟩⟩
        refine ⟨?_, ih.2.trans (getD_set_ne hkm)⟩
        unfold namesGo
        rw [e1]
        exact ih.1
      · have ih := go_unset nv (s := { s with names := s.names ++ [nm], named := s.named ++ [v] }) hb h
        have e1 : nameStep u isU ps { s with vals := s.vals.set m u } nm v = .inr { vals := s.vals.set m u, names := s.names ++ [nm], named := s.named ++ [v] } := step_iff.2 ⟨hn, .inr ⟨ha, hp, rfl⟩⟩
        refine ⟨?_, ih.2⟩
        unfold namesGo
        rw [e1]
        exact ih.1

/-- What is left are names of no parameter, each once. -/
theorem go_names : ∀ (nv : List (ByteArray × V)) {s s' : BSt V}, (∀ x ∈ s.names, atN ps x = none) → s.names.Nodup → s.names.length = s.named.length → namesGo u isU ps s nv = .inr s' →
    (∀ x ∈ s'.names, atN ps x = none) ∧ s'.names.Nodup ∧ s'.vals.length = s.vals.length ∧ s'.names.length = s'.named.length
  | [], s, s', h1, h2, h3, h => by
    simp only [namesGo, Sum.inr.injEq] at h
    subst h
    exact ⟨h1, h2, rfl, h3⟩
  | (nm, v) :: nv, s, s', h1, h2, h3, h => by
    unfold namesGo at h
    cases hs : nameStep u isU ps s nm v with
    | inl x => rw [hs] at h; cases h
    | inr s1 =>
      rw [hs] at h
      simp only at h
      rw [step_iff] at hs
      obtain ⟨hn, ⟨k, ha, hu, rfl⟩ | ⟨ha, hp, rfl⟩⟩ := hs
      · have := go_names nv (s := { s with vals := s.vals.set k v }) h1 h2 h3 h
        simpa using this
      · have hnin : nm ∉ s.names := fun hm => by
          have : s.names.any (sameN nm) = true := List.any_eq_true.2 ⟨nm, hm, sameN_iff.2 rfl⟩
          rw [hn] at this; cases this
        exact go_names nv (s := { s with names := s.names ++ [nm], named := s.named ++ [v] }) (fun x hx => by
          rcases List.mem_append.1 hx with hx | hx
          · exact h1 x hx
          · rw [List.mem_singleton.1 hx]; exact ha) (List.nodup_append.2 ⟨h2, by simp, fun x hx y hy => by rw [List.mem_singleton.1 hy]; rintro rfl; exact hnin hx⟩) (by simp [h3]) h

theorem go_snoc : ∀ (nv : List (ByteArray × V)) {s s' : BSt V} (nm : ByteArray) (v : V), namesGo u isU ps s nv = .inr s' → namesGo u isU ps s (nv ++ [(nm, v)]) = namesGo u isU ps s' [(nm, v)]
  | [], s, s', nm, v, h => by
    simp only [namesGo, Sum.inr.injEq] at h
    subst h
    rfl
  | (a, x) :: nv, s, s', nm, v, h => by
    unfold namesGo at h
    cases hs : nameStep u isU ps s a x with
    | inl m => rw [hs] at h; cases h
    | inr s1 =>
      rw [hs] at h
      simp only at h
      rw [List.cons_append]
      conv => { lhs; unfold namesGo }
      rw [hs]
      exact go_snoc nv nm v h

/-- What follows the named arguments. -/
def contV (u : V) (isU : V → Bool) (ps : List Par) (ds rest : List V) (x : BMsg ⊕ BSt V) : BMsg ⊕ (BSt V × List V) := match x with
  | .inl m => .inl m
  | .inr st => match restGo u isU 0 st.vals ds ps with
    | .inl m => .inl m
    | .inr vals => .inr ({ st with vals := vals }, rest)
theorem bindF_contV (ds l : List V) (nv : List (ByteArray × V)) : bindF u isU ps ds l nv = if startRest ps l ≠ [] ∧ starOk ps = false then .inl .many else contV u isU ps ds (startRest ps l) (namesGo u isU ps ⟨startV u ps l, [], []⟩ nv) := by
  unfold bindF contV
  split
  · rfl
  · cases namesGo u isU ps ⟨startV u ps l, [], []⟩ nv with
    | inl m => rfl
    | inr st =>
      simp only
      cases restGo u isU 0 st.vals ds ps <;> rfl
theorem bindF_inr {ds l : List V} {nv : List (ByteArray × V)} {st : BSt V} {rest : List V} : bindF u isU ps ds l nv = .inr (st, rest) ↔
    ¬ (startRest ps l ≠ [] ∧ starOk ps = false) ∧ rest = startRest ps l ∧ ∃ s1, namesGo u isU ps ⟨startV u ps l, [], []⟩ nv = .inr s1 ∧ restGo u isU 0 s1.vals ds ps = .inr st.vals ∧ st.names = s1.names ∧ st.named = s1.named := by
  rw [bindF_contV]
  by_cases h : startRest ps l ≠ [] ∧ starOk ps = false
  · rw [if_pos h]; simp [h]
  · rw [if_neg h]
    unfold contV
    cases h1 : namesGo u isU ps ⟨startV u ps l, [], []⟩ nv with
    | inl m => simp
    | inr s1 =>
      simp only
      cases h2 : restGo u isU 0 s1.vals ds ps with
      | inl m =>
        constructor
        · intro h; cases h
        · rintro ⟨_, _, s2, e, h3, _⟩
          cases e
          rw [h2] at h3; cases h3
      | inr vals =>
        constructor
        · intro e
          simp only [Sum.inr.injEq, Prod.mk.injEq] at e
          obtain ⟨rfl, rfl⟩ := e
          exact ⟨h, rfl, s1, rfl, h2, rfl, rfl⟩
        · rintro ⟨_, rfl, s2, e, h3, h4, h5⟩
          cases e
          rw [h2] at h3
          cases h3
          obtain ⟨a, b, c⟩ := st
          simp only at h4 h5
          subst h4 h5
          rfl

theorem bind_order {ds l : List V} {nv nv' : List (ByteArray × V)} {st : BSt V} {rest : List V} (hnv : ∀ x ∈ nv, isU x.2 = false) (hp : nv.Perm nv') (h : bindF u isU ps ds l nv = .inr (st, rest)) :
    ∃ st', bindF u isU ps ds l nv' = .inr (st', rest) ∧ RelB st st' ∧ st.names.Nodup := by
  rw [bindF_inr] at h
  obtain ⟨hc, rfl, s1, h1, h2, h3, h4⟩ := h
  have hlen : (startV u ps l).length = ps.length := by
    have := lead_le ps
    simp [startV]; omega
  obtain ⟨t1, e1, r1⟩ := go_perm hp (s := ⟨startV u ps l, [], []⟩) hlen rfl hnv h1
  have hn := go_names nv (s := ⟨startV u ps l, [], []⟩) (fun x hx => by simp at hx) List.nodup_nil rfl h1
  refine ⟨⟨st.vals, t1.names, t1.named⟩, bindF_inr.2 ⟨hc, rfl, t1, e1, by rw [r1.vals]; exact h2, rfl, rfl⟩, ⟨rfl, by rw [h3, h4]; exact r1.l1, r1.l2, by rw [h3, h4]; exact r1.perm⟩, by rw [h3]; exact hn.2.1⟩

/-- Of what is left each name is found, with its value. -/
theorem RelB.find {s t : BSt V} (h : RelB s t) (hn : s.names.Nodup) : t.names.length = s.names.length ∧ ∀ n (hlt : n < t.names.length), ∃ k, ∃ hk : k < s.named.length, s.names.findIdx? (sameN t.names[n]) = some k ∧ s.named[k] = t.named[n]'(by rw [← h.l2]; exact hlt) := by
  refine ⟨h.names.length_eq.symm, fun n hlt => ?_⟩
  have hm : (t.names[n], t.named[n]'(by rw [← h.l2]; exact hlt)) ∈ s.names.zip s.named := by
    rw [h.perm.mem_iff, List.mem_iff_getElem]
    exact ⟨n, by rw [List.length_zip, ← h.l2, Nat.min_self]; exact hlt, by rw [List.getElem_zip]⟩
  rw [List.mem_iff_getElem] at hm
  obtain ⟨k, hk, e⟩ := hm
  rw [List.getElem_zip] at e
  simp only [Prod.mk.injEq] at e
  have hks : k < s.names.length := by rw [List.length_zip] at hk; omega
  refine ⟨k, by rw [← h.l1]; exact hks, ?_, e.2⟩
  rw [List.findIdx?_eq_some_iff_getElem]
  refine ⟨hks, sameN_iff.2 e.1, fun j hj => ?_⟩
  intro hx
  rw [sameN_iff, ← e.1] at hx
  have := (List.getElem_inj hn).1 hx
  omega

theorem bind_byname (hg : GoodPs ps) (hu : isU u = true) {ds l : List V} {nv : List (ByteArray × V)} {st : BSt V} {rest : List V} (hl : ∀ v ∈ l, isU v = false) (h : bindF u isU ps ds l nv = .inr (st, rest)) {m : Nat} (hm : l.length = m + 1) (hmp : m < ps.length) (hk : ps[m].k = 0) :
    bindF u isU ps ds (l.take m) (nv ++ [(ps[m].s, l[m]'(by omega))]) = .inr (st, rest) := by
  have hlead : m + 1 ≤ leadN ps := by
    have hall : ∀ j (hj : j ≤ m), (ps[j]'(by omega)).k = 0 := fun j hj => by
      have h1 := hg.kind j (by omega)
      rcases Nat.lt_or_ge j m with hlt | hge
      · have := (hg.mono j m hmp hlt).1; omega
      · have : j = m := by omega
        subst this; exact hk
    have : ∀ (n : Nat) (qs : List Par), (∀ j, j < n → ∃ hj : j < qs.length, qs[j].k = 0) → n ≤ leadN qs := by
      intro n
      induction n with
      | zero => intro qs _; exact Nat.zero_le _
      | succ n ih =>
        intro qs hq
        cases qs with
        | nil => obtain ⟨hj, _⟩ := hq 0 (by omega); simp at hj
        | cons q qs =>
          obtain ⟨_, h0⟩ := hq 0 (by omega)
          unfold leadN
          rw [List.takeWhile_cons_of_pos (by simpa using h0), List.length_cons]
          have := ih qs (fun j hj => by obtain ⟨h1, h2⟩ := hq (j + 1) (by omega); exact ⟨by simpa using h1, by simpa using h2⟩)
          unfold leadN at this
          omega
    exact this (m + 1) ps (fun j hj => ⟨by omega, hall j (by omega)⟩)
  rw [bindF_inr] at h ⊢
  obtain ⟨hc, rfl, s1, h1, h2, h3, h4⟩ := h
  have hml : m < l.length := by omega
  have hr1 : startRest ps l = [] := by unfold startRest; rw [List.drop_eq_nil_iff]; omega
  have hr2 : startRest ps (l.take m) = [] := by unfold startRest; rw [List.drop_eq_nil_iff]; simp; omega
  have hlen : (startV u ps l).length = ps.length := by simp [startV]; omega
  have hget : (startV u ps l).getD m u = l[m] := by
    unfold startV
    rw [List.getD_eq_getElem?_getD, List.getElem?_append_left (by simp; omega), List.getElem?_take, if_pos (by omega), List.getElem?_eq_getElem hml]; rfl
  have hset : startV u ps (l.take m) = (startV u ps l).set m u := by
    have e1 : min (leadN ps) (l.take m).length = m := by simp; omega
    have e2 : min (leadN ps) l.length = m + 1 := by omega
    have hA : (l.take m).length = m := by simp; omega
    unfold startV
    rw [e1, e2, List.take_take, Nat.min_self, List.take_succ_eq_append_getElem hml, List.set_append_left _ _ (by simp; omega), List.set_append_right _ _ (by omega), hA, Nat.sub_self, List.set_cons_zero,
      show ps.length - m = (ps.length - (m + 1)) + 1 by omega, List.replicate_succ, List.append_assoc]
    rfl
  have hbm : isU ((startV u ps l).getD m u) = false := by rw [hget]; exact hl _ (List.getElem_mem hml)
  have hgo := go_unset nv (s := ⟨startV u ps l, [], []⟩) (m := m) hbm h1
  have hnm := go_names nv (s := ⟨startV u ps l, [], []⟩) (fun x hx => by simp at hx) List.nodup_nil rfl h1
  have hown : own ps[m] = true := by unfold own; rw [hk]; rfl
  have hat : atN ps ps[m].s = some m := by
    cases ha : atN ps ps[m].s with
    | none => exact absurd rfl (at_none ha m hmp hown)
    | some k =>
      obtain ⟨hk1, hk2, hk3⟩ := at_some ha
      by_cases hkm : k = m
      · rw [hkm]
      · exact absurd hk2 (own_diff hg hk1 hmp hk3 hown hkm)
  have hany : s1.names.any (sameN ps[m].s) = false := by
    cases hx : s1.names.any (sameN ps[m].s) with
    | false => rfl
    | true =>
      obtain ⟨x, hx1, hx2⟩ := List.any_eq_true.1 hx
      rw [sameN_iff] at hx2
      have := hnm.1 x hx1
      rw [hx2, hat] at this; cases this
  have hs1 : s1.vals.length = ps.length := by rw [hnm.2.2.1]; exact hlen
  have hlast : namesGo u isU ps { s1 with vals := s1.vals.set m u } [(ps[m].s, l[m])] = .inr s1 := by
    have e1 : nameStep u isU ps { s1 with vals := s1.vals.set m u } ps[m].s l[m] = .inr { s1 with vals := (s1.vals.set m u).set m l[m] } :=
      step_iff.2 ⟨hany, .inl ⟨m, hat, by simp only; rw [getD_set_eq (by omega)]; exact hu, rfl⟩⟩
    have e2 : (s1.vals.set m u).set m l[m] = s1.vals := by
      rw [List.set_set]
      have e3 : s1.vals.getD m u = l[m] := hgo.2.trans hget
      rw [List.getD_eq_getElem?_getD, List.getElem?_eq_getElem (by omega)] at e3
      simp only [Option.getD_some] at e3
      rw [← e3]
      exact List.set_getElem_self _
    unfold namesGo
    rw [e1, e2]
    rfl
  refine ⟨by rw [hr2]; simp, by rw [hr1, hr2], s1, ?_, h2, h3, h4⟩
  rw [hset, go_snoc nv _ _ hgo.1]
  exact hlast

theorem restGo_len : ∀ (qs : List Par) (i : Nat) (vals ds vals' : List V), restGo u isU i vals ds qs = .inr vals' → vals'.length = vals.length
  | [], i, vals, ds, vals', h => by
    simp only [restGo, Sum.inr.injEq] at h
    subst h; rfl
  | q :: qs, i, vals, ds, vals', h => by
    unfold restGo at h
    split at h
    · exact restGo_len qs _ _ _ _ h
    · split at h
      · cases h
      · rw [restGo_len qs _ _ _ _ h]; simp
theorem bindF_len {ds l : List V} {nv : List (ByteArray × V)} {st : BSt V} {rest : List V} (h : bindF u isU ps ds l nv = .inr (st, rest)) : st.vals.length = ps.length ∧ st.names.length = st.named.length := by
  rw [bindF_inr] at h
  obtain ⟨_, _, s1, h1, h2, h3, h4⟩ := h
  have hn := go_names nv (s := ⟨startV u ps l, [], []⟩) (fun x hx => by simp at hx) List.nodup_nil rfl h1
  have hlen : (startV u ps l).length = ps.length := by
    have := lead_le ps
    simp [startV]; omega
  exact ⟨by rw [restGo_len _ _ _ _ _ h2, hn.2.2.1]; exact hlen, by rw [h3, h4]; exact hn.2.2.2⟩
/-- Two places of a list of pairs exchanged. -/
theorem zip_swap {α β : Type} (a : List α) (b : List β) (h : a.length = b.length) {i k : Nat} (hi : i < a.length) (hk : k < a.length) :
    (a.zip b).Perm (((a.set i a[k]).set k a[i]).zip ((b.set i (b[k]'(by omega))).set k (b[i]'(by omega)))) := by
  have e : ((a.set i a[k]).set k a[i]).zip ((b.set i (b[k]'(by omega))).set k (b[i]'(by omega))) = ((a.zip b).set i ((a.zip b)[k]'(by rw [List.length_zip]; omega))).set k ((a.zip b)[i]'(by rw [List.length_zip]; omega)) := by
    apply List.ext_getElem
    · simp
    · intro j h1 h2
      simp only [List.getElem_zip, List.getElem_set]
      split
      · rfl
      · split <;> rfl
  rw [e]
  exact (List.set_set_perm _ _).symm
end
end Go.Proofs.Ytbickehhnkhabaa
