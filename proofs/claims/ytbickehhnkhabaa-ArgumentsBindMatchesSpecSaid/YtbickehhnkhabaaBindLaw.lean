/- The code's binding and the document's give the same. -/
import Derived.Test.YtbickehhnkhabaaBindSpec
namespace Go.Proofs.Ytbickehhnkhabaa

theorem sameN_iff {a b : ByteArray} : sameN a b = true ↔ b = a := eqB
theorem sameN_false {a b : ByteArray} : sameN a b = false ↔ b ≠ a := eqB_ne

theorem filter_lead : ∀ (ps : List Par), (ps.Pairwise fun a b => a.k ≤ b.k) → (∀ p ∈ ps, 0 ≤ p.k) → ps.filter (fun p => p.k == 0) = ps.takeWhile fun p => p.k == 0 := by
  intro ps
  induction ps with
  | nil => intro _ _; rfl
  | cons p ps ih =>
    intro hp hk
    rw [List.pairwise_cons] at hp
    by_cases h0 : p.k = 0
    · rw [List.filter_cons_of_pos (by simpa using h0), List.takeWhile_cons_of_pos (by simpa using h0), ih hp.2 (fun q hq => hk q (List.mem_cons_of_mem _ hq))]
    · rw [List.filter_cons_of_neg (by simpa using h0), List.takeWhile_cons_of_neg (by simpa using h0), List.filter_eq_nil_iff]
      intro q hq
      have h1 := hp.1 q hq
      have h2 := hk p (List.mem_cons_self)
      simp; omega

theorem lead_eq {ps : List Par} (hg : GoodPs ps) : leadN ps = plainN ps := by
  unfold leadN plainN
  rw [filter_lead ps]
  · rw [List.pairwise_iff_getElem]
    intro i j hi hj hij
    exact (hg.mono i j hj hij).1
  · intro p hp
    obtain ⟨i, hi, rfl⟩ := List.getElem_of_mem hp
    exact (hg.kind i hi).1

theorem lead_lt {ps : List Par} {i : Nat} (h : i < leadN ps) : ∃ hi : i < ps.length, ps[i].k = 0 := by
  unfold leadN at h
  have hpre := List.takeWhile_prefix (l := ps) (fun p => p.k == 0)
  have hi : i < ps.length := Nat.lt_of_lt_of_le h hpre.length_le
  refine ⟨hi, ?_⟩
  have h1 : (ps.takeWhile fun p => p.k == 0)[i]'h ∈ ps.takeWhile fun p => p.k == 0 := List.getElem_mem h
  have h2 := List.all_takeWhile (l := ps) (p := fun p => p.k == 0)
  rw [List.all_eq_true] at h2
  have h3 := h2 _ h1
  rw [hpre.getElem h] at h3
  simpa using h3

theorem lead_le (ps : List Par) : leadN ps ≤ ps.length := (List.takeWhile_prefix (l := ps) (fun p => p.k == 0)).length_le

theorem star_eq {ps : List Par} (hg : GoodPs ps) : starOk ps = hasStar ps := by
  unfold starOk hasStar
  cases hf : ps.find? fun p => p.k == 1 with
  | none =>
    rw [List.find?_eq_none] at hf
    symm
    rw [List.any_eq_false]
    intro p hp
    have := hf p hp
    simp at this
    simp [this]
  | some p =>
    have hp1 := List.find?_some hf
    have hpm := List.mem_of_find?_eq_some hf
    simp only [beq_iff_eq] at hp1
    simp only
    cases he : strE p.s with
    | false =>
      symm
      rw [List.any_eq_true.2 ⟨p, hpm, by simp [hp1, he]⟩]; rfl
    | true =>
      symm
      rw [Bool.not_true, List.any_eq_false]
      intro q hq
      obtain ⟨i, hi, rfl⟩ := List.getElem_of_mem hpm
      obtain ⟨j, hj, rfl⟩ := List.getElem_of_mem hq
      by_cases hk : ps[j].k = 1
      · have hij : i = j := by
          rcases Nat.lt_trichotomy i j with h | h | h
          · have := (hg.mono i j hj h).2 (.inl hk); omega
          · exact h
          · have := (hg.mono j i hi h).2 (.inl hp1); omega
        subst hij
        simp [he]
      · simp [hk]

section
variable {V : Type} {u : V} {isU : V → Bool}

structure Inv (u : V) (isU : V → Bool) (ps : List Par) (st : BSt V) (rs : RSt V) : Prop where
  len : st.vals.length = ps.length
  glen : rs.gs.length = rs.ns.length
  ok : ∀ v ∈ rs.gs, isU v = false
  own : ∀ j (h : j < ps.length), own ps[j] = true → st.vals.getD j u = match rs.ns.findIdx? (sameN ps[j].s) with | some k => rs.gs.getD k u | none => u
  oth : ∀ j (h : j < ps.length), Go.Proofs.Ytbickehhnkhabaa.own ps[j] = false → st.vals.getD j u = u
  nm : st.names = rs.names
  nd : st.named = rs.named
  pairs : ∀ s, st.names.any (sameN s) = true ↔ (rs.ns.any (sameN s) = true ∧ atN ps s = none)

theorem gs_mem {rs : RSt V} {s : ByteArray} {k : Nat} (h : rs.ns.findIdx? (sameN s) = some k) (hl : rs.gs.length = rs.ns.length) (u : V) : rs.gs.getD k u ∈ rs.gs := by
  rw [List.findIdx?_eq_some_iff_getElem] at h
  obtain ⟨hk, _⟩ := h
  rw [List.getD_eq_getElem?_getD, List.getElem?_eq_getElem (by omega), Option.getD_some]
  exact List.getElem_mem _

theorem find_any {ns : List ByteArray} {s : ByteArray} : ns.any (sameN s) = true ↔ ∃ k, ns.findIdx? (sameN s) = some k := by
  rw [← Option.isSome_iff_exists, List.findIdx?_isSome]

theorem find_push_same {ns : List ByteArray} {s : ByteArray} (h : ns.any (sameN s) = false) : (ns ++ [s]).findIdx? (sameN s) = some ns.length := by
  rw [List.findIdx?_append]
  have h1 : ns.findIdx? (sameN s) = none := by
    rw [List.findIdx?_eq_none_iff]
    intro x hx
    rw [List.any_eq_false] at h
    simpa using h x hx
  rw [h1]
  have : sameN s s = true := sameN_iff.2 rfl
  simp [List.findIdx?_cons, this]

theorem find_push_other {ns : List ByteArray} {s t : ByteArray} (h : t ≠ s) : (ns ++ [t]).findIdx? (sameN s) = ns.findIdx? (sameN s) := by
  rw [List.findIdx?_append]
  have : sameN s t = false := sameN_false.2 h
  simp [List.findIdx?_cons, this]

theorem at_some {ps : List Par} {nm : ByteArray} {k : Nat} (h : atN ps nm = some k) : ∃ hk : k < ps.length, ps[k].s = nm ∧ own ps[k] = true := by
  unfold atN at h
  rw [List.findIdx?_eq_some_iff_getElem] at h
  obtain ⟨hk, h1, _⟩ := h
  rw [Bool.and_eq_true] at h1
  exact ⟨hk, sameN_iff.1 h1.1, h1.2⟩

theorem at_none {ps : List Par} {nm : ByteArray} (h : atN ps nm = none) : ∀ j (hj : j < ps.length), own ps[j] = true → ps[j].s ≠ nm := by
  unfold atN at h
  rw [List.findIdx?_eq_none_iff] at h
  intro j hj ho he
  have := h ps[j] (List.getElem_mem hj)
  rw [ho, sameN_iff.2 he] at this
  cases this

theorem atP_any (ps : List Par) (nm : ByteArray) : (ps.any fun p => sameN nm p.s && own p) = (atN ps nm).isSome := by
  unfold atN
  rw [List.findIdx?_isSome]

theorem own_diff {ps : List Par} (hg : GoodPs ps) {i j : Nat} (hi : i < ps.length) (hj : j < ps.length) (ho1 : own ps[i] = true) (ho2 : own ps[j] = true) (hne : i ≠ j) : ps[i].s ≠ ps[j].s := by
  rcases Nat.lt_or_gt_of_ne hne with h | h
  · exact hg.diff i j hj h (hg.ownNe j hj ho2)
  · exact (hg.diff j i hi h (hg.ownNe i hi ho1)).symm

theorem getD_push_lt {gs : List V} {v u : V} {k : Nat} (h : k < gs.length) : (gs ++ [v]).getD k u = gs.getD k u := by
  rw [List.getD_eq_getElem?_getD, List.getD_eq_getElem?_getD, List.getElem?_append_left h]
theorem getD_push_eq {gs : List V} {v u : V} : (gs ++ [v]).getD gs.length u = v := by
  rw [List.getD_eq_getElem?_getD, List.getElem?_append_right (Nat.le_refl _)]; simp
theorem getD_set_eq {l : List V} {v u : V} {k : Nat} (h : k < l.length) : (l.set k v).getD k u = v := by
  rw [List.getD_eq_getElem?_getD, List.getElem?_set_self h]; rfl
theorem getD_set_ne {l : List V} {v u : V} {k j : Nat} (h : k ≠ j) : (l.set k v).getD j u = l.getD j u := by
  rw [List.getD_eq_getElem?_getD, List.getElem?_set_ne h, List.getD_eq_getElem?_getD]

/-- A name that no own parameter has, or that of parameter k alone: what the others find stays. -/
theorem own_push {ns : List ByteArray} {gs : List V} {s nm : ByteArray} {v : V} (hl : gs.length = ns.length) (hne : s ≠ nm) :
    (match (ns ++ [nm]).findIdx? (sameN s) with | some k => (gs ++ [v]).getD k u | none => u) = match ns.findIdx? (sameN s) with | some k => gs.getD k u | none => u := by
  rw [find_push_other (Ne.symm hne)]
  cases hf : ns.findIdx? (sameN s) with
  | none => rfl
  | some k =>
    rw [List.findIdx?_eq_some_iff_getElem] at hf
    obtain ⟨hk, _⟩ := hf
    exact getD_push_lt (by omega)

theorem step_eq {ps : List Par} (hg : GoodPs ps) (hu : isU u = true) {st : BSt V} {rs : RSt V} (hI : Inv u isU ps st rs) (nm : ByteArray) (v : V) (hv : isU v = false) :
    (∃ m, nameStep u isU ps st nm v = .inl m ∧ refStep ps rs nm v = .inl m) ∨ (∃ st' rs', nameStep u isU ps st nm v = .inr st' ∧ refStep ps rs nm v = .inr rs' ∧ Inv u isU ps st' rs') := by
  unfold nameStep refStep
  rw [atP_any]
  cases ha : atN ps nm with
  | some k =>
    obtain ⟨hk, hks, hko⟩ := at_some ha
    have hnp : st.names.any (sameN nm) = false := by
      rw [Bool.eq_false_iff]
      intro h
      have := ((hI.pairs nm).1 h).2
      rw [ha] at this; cases this
    have hown := hI.own k hk hko
    rw [hks] at hown
    simp only [Option.isSome_some, if_true]
    by_cases hns : rs.ns.any (sameN nm) = true
    · obtain ⟨k2, hk2⟩ := find_any.1 hns
      rw [hk2] at hown
      have hb : isU (st.vals.getD k u) = false := by rw [hown]; exact hI.ok _ (gs_mem hk2 hI.glen u)
      exact .inl ⟨.two nm, by rw [if_pos (.inl hb)], by rw [if_pos hns]⟩
    · have hf : rs.ns.findIdx? (sameN nm) = none := by
        rw [List.findIdx?_eq_none_iff]
        rw [List.any_eq_true] at hns
        intro x hx
        cases h : sameN nm x with
        | false => rfl
        | true => exact absurd ⟨x, hx, h⟩ hns
      rw [hf] at hown
      refine .inr ⟨{ st with vals := st.vals.set k v }, { rs with ns := rs.ns ++ [nm], gs := rs.gs ++ [v] }, ?_, by rw [if_neg hns], ?_⟩
      · rw [if_neg]
        rintro (h | h)
        · rw [hown, hu] at h; cases h
        · rw [hnp] at h; cases h
      · refine ⟨by simpa using hI.len, by simp [hI.glen], fun w hw => ?_, fun j hj ho => ?_, fun j hj ho => ?_, hI.nm, hI.nd, fun s => ?_⟩
        · rw [List.mem_append] at hw
          rcases hw with h | h
          · exact hI.ok w h
          · rw [List.mem_singleton] at h; rw [h]; exact hv
        · by_cases hjk : k = j
          · subst hjk
            simp only
            rw [getD_set_eq (by rw [hI.len]; exact hk), hks, find_push_same (by simpa using hns)]
            simp only
            rw [← hI.glen, getD_push_eq]
          · simp only
            rw [getD_set_ne hjk, own_push hI.glen (by rw [← hks]; exact own_diff hg hj hk ho hko (Ne.symm hjk)), hI.own j hj ho]
        · have hjk : k ≠ j := by rintro rfl; rw [hko] at ho; cases ho
          simp only
          rw [getD_set_ne hjk, hI.oth j hj ho]
        · simp only
          rw [hI.pairs s, List.any_append]
          by_cases hs : s = nm
          · subst hs
            rw [ha]; simp
          · have : sameN s nm = false := sameN_false.2 (Ne.symm hs)
            simp [this]
  | none =>
    have hp := hI.pairs nm
    rw [ha] at hp
    simp only [and_true] at hp
    simp only [Option.isSome_none, Bool.false_eq_true, if_false]
    by_cases hns : rs.ns.any (sameN nm) = true
    · exact .inl ⟨.two nm, by rw [if_pos (hp.2 hns)], by rw [if_pos hns]⟩
    · rw [if_neg (fun h => hns (hp.1 h)), if_neg hns]
      by_cases hpa : hasPairs ps = true
      · rw [if_pos hpa, if_pos hpa]
        refine .inr ⟨_, _, rfl, rfl, ?_⟩
        refine ⟨hI.len, by simp [hI.glen], fun w hw => ?_, fun j hj ho => ?_, hI.oth, by simp [hI.nm], by simp [hI.nd], fun s => ?_⟩
        · simp only [List.mem_append, List.mem_singleton] at hw
          rcases hw with h | h
          · exact hI.ok w h
          · rw [h]; exact hv
        · simp only
          rw [own_push hI.glen (at_none ha j hj ho), hI.own j hj ho]
        · simp only
          rw [List.any_append, List.any_append, Bool.or_eq_true, Bool.or_eq_true, hI.pairs s]
          by_cases hs : s = nm
          · subst hs
            rw [ha]; simp
          · have : sameN s nm = false := sameN_false.2 (Ne.symm hs)
            simp [this]
      · rw [if_neg hpa, if_neg hpa]
        exact .inl ⟨_, rfl, rfl⟩

theorem go_eq {ps : List Par} (hg : GoodPs ps) (hu : isU u = true) : ∀ (nv : List (ByteArray × V)) (st : BSt V) (rs : RSt V), Inv u isU ps st rs → (∀ x ∈ nv, isU x.2 = false) →
    (∃ m, namesGo u isU ps st nv = .inl m ∧ refGo ps rs nv = .inl m) ∨ (∃ st' rs', namesGo u isU ps st nv = .inr st' ∧ refGo ps rs nv = .inr rs' ∧ Inv u isU ps st' rs') := by
  intro nv
  induction nv with
  | nil => intro st rs hI _; exact .inr ⟨st, rs, rfl, rfl, hI⟩
  | cons x l ih =>
    obtain ⟨nm, v⟩ := x
    intro st rs hI hv
    unfold namesGo refGo
    rcases step_eq hg hu hI nm v (hv _ (List.mem_cons_self)) with ⟨m, h1, h2⟩ | ⟨st', rs', h1, h2, hI'⟩
    · rw [h1, h2]; exact .inl ⟨m, rfl, rfl⟩
    · rw [h1, h2]; exact ih st' rs' hI' (fun y hy => hv y (List.mem_cons_of_mem _ hy))

theorem rest_eq {ps : List Par} (hg : GoodPs ps) (hu : isU u = true) (ns : List ByteArray) (gs ds : List V) (hl : gs.length = ns.length) (hok : ∀ v ∈ gs, isU v = false) :
    ∀ (qs : List Par) (i next : Nat) (vals : List V), ps.drop i = qs → vals.length = ps.length →
      (∀ j (h : j < ps.length), i ≤ j → own ps[j] = true → vals.getD j u = match ns.findIdx? (sameN ps[j].s) with | some k => gs.getD k u | none => u) →
      (∀ j (h : j < ps.length), i ≤ j → own ps[j] = false → vals.getD j u = u) →
      (∃ m, restGo u isU i vals (ds.drop next) qs = .inl m ∧ outGo u ns gs next ds qs = .inl m) ∨ (∃ vs, outGo u ns gs next ds qs = .inr vs ∧ restGo u isU i vals (ds.drop next) qs = .inr (vals.take i ++ vs)) := by
  intro qs
  induction qs with
  | nil =>
    intro i next vals hd hlen _ _
    have : ps.length ≤ i := by
      rw [List.drop_eq_nil_iff] at hd; exact hd
    exact .inr ⟨[], rfl, by unfold restGo; rw [List.take_of_length_le (by omega)]; simp⟩
  | cons p qs ih =>
    intro i next vals hd hlen hown hoth
    have hi : i < ps.length := by
      rcases Nat.lt_or_ge i ps.length with h | h
      · exact h
      · rw [List.drop_of_length_le h] at hd; cases hd
    rw [List.drop_eq_getElem_cons hi, List.cons.injEq] at hd
    obtain ⟨rfl, hd⟩ := hd
    have hsplit : ∀ (l : List V), l.length = ps.length → l.take (i + 1) = l.take i ++ [l.getD i u] := fun l h => by
      rw [List.take_succ_eq_append_getElem (by omega), List.getD_eq_getElem?_getD, List.getElem?_eq_getElem (by omega)]; rfl
    unfold restGo outGo
    rw [List.drop_drop]
    by_cases ho : own ps[i] = true
    · have h1 := hown i hi (Nat.le_refl _) ho
      have hk13 : ¬ (ps[i].k = 1) ∧ ¬ (ps[i].k = 3) := by unfold own at ho; simp at ho; omega
      rw [if_pos ho]
      cases hf : ns.findIdx? (sameN ps[i].s) with
      | some k =>
        rw [hf] at h1
        have hb : isU (vals.getD i u) = false := by rw [h1]; exact hok _ (gs_mem (rs := ⟨ns, gs, [], []⟩) hf hl u)
        rw [if_pos (.inr (.inr hb))]
        simp only
        rcases ih (i + 1) (next + ps[i].n) vals hd hlen (fun j h hj => hown j h (by omega)) (fun j h hj => hoth j h (by omega)) with ⟨m, h2, h3⟩ | ⟨vs, h2, h3⟩
        · rw [h2, h3]; exact .inl ⟨m, rfl, rfl⟩
        · rw [h2, h3]
          refine .inr ⟨_, rfl, ?_⟩
          rw [hsplit vals hlen, h1]; simp
      | none =>
        rw [hf] at h1
        simp only at h1
        have hb : ¬ (ps[i].k = 1 ∨ ps[i].k = 3 ∨ isU (vals.getD i u) = false) := by
          rintro (h | h | h)
          · exact hk13.1 h
          · exact hk13.2 h
          · rw [h1, hu] at h; cases h
        rw [if_neg hb]
        by_cases hn : ps[i].n = 0
        · rw [if_pos hn]
          simp only [hn, Nat.lt_irrefl, if_false]
          exact .inl ⟨_, rfl, rfl⟩
        · rw [if_neg hn]
          have hn' : 0 < ps[i].n := by omega
          simp only [if_pos hn']
          have hg0 : (ds.drop next).getD 0 u = ds.getD next u := by rw [List.getD_eq_getElem?_getD, List.getElem?_drop, Nat.add_zero, List.getD_eq_getElem?_getD]
          rw [hg0]
          rcases ih (i + 1) (next + ps[i].n) (vals.set i (ds.getD next u)) hd (by simpa using hlen) (fun j h hj => by rw [getD_set_ne (by omega)]; exact hown j h (by omega)) (fun j h hj => by rw [getD_set_ne (by omega)]; exact hoth j h (by omega)) with ⟨m, h2, h3⟩ | ⟨vs, h2, h3⟩
          · rw [h2, h3]; exact .inl ⟨m, rfl, rfl⟩
          · rw [h2, h3]
            refine .inr ⟨_, rfl, ?_⟩
            rw [hsplit _ (by simpa using hlen), getD_set_eq (by omega), List.take_set_of_le (Nat.le_refl _)]; simp
    · have hof : own ps[i] = false := by simpa using ho
      have h1 := hoth i hi (Nat.le_refl _) hof
      have hk13 : ps[i].k = 1 ∨ ps[i].k = 3 := by
        have := hg.kind i hi
        unfold own at hof; simp at hof; omega
      rw [if_pos (by rcases hk13 with h | h; exact .inl h; exact .inr (.inl h)), if_neg ho]
      simp only
      rcases ih (i + 1) (next + ps[i].n) vals hd hlen (fun j h hj => hown j h (by omega)) (fun j h hj => hoth j h (by omega)) with ⟨m, h2, h3⟩ | ⟨vs, h2, h3⟩
      · rw [h2, h3]; exact .inl ⟨m, rfl, rfl⟩
      · rw [h2, h3]
        refine .inr ⟨_, rfl, ?_⟩
        rw [hsplit vals hlen, h1]; simp

theorem bind_eq {ps : List Par} (hg : GoodPs ps) (hu : isU u = true) (ds l : List V) (nv : List (ByteArray × V)) (hl : ∀ v ∈ l, isU v = false) (hnv : ∀ x ∈ nv, isU x.2 = false) :
    bindF u isU ps ds l nv = refF u ps ds l nv := by
  have hlead := lead_eq hg
  have hle := lead_le ps
  unfold bindF refF
  rw [star_eq hg]
  have hr : startRest ps l = l.drop (plainN ps) := by
    unfold startRest
    rw [hlead]
    rcases Nat.le_total (plainN ps) l.length with h | h
    · rw [Nat.min_eq_left h]
    · rw [Nat.min_eq_right h, List.drop_length, List.drop_of_length_le h]
  have hne : (startRest ps l ≠ [] ∧ hasStar ps = false) ↔ (plainN ps < l.length ∧ hasStar ps = false) := by
    rw [hr, Ne, List.drop_eq_nil_iff, Nat.not_le]
  by_cases hm : plainN ps < l.length ∧ hasStar ps = false
  · rw [if_pos (hne.2 hm), if_pos hm]
  · rw [if_neg (fun h => hm (hne.1 h)), if_neg hm]
    have hm1 : min (leadN ps) l.length ≤ ps.length := by omega
    have hI : Inv u isU ps ⟨startV u ps l, [], []⟩ ⟨(ps.take (min (plainN ps) l.length)).map Par.s, l.take (min (plainN ps) l.length), [], []⟩ := by
      rw [← hlead]
      have hlk : ∀ j, j < min (leadN ps) l.length → ∃ hj : j < ps.length, ps[j].k = 0 := fun j hj => lead_lt (by omega)
      have hsv : ∀ j, (startV u ps l).getD j u = if j < min (leadN ps) l.length then l.getD j u else u := by
        intro j
        unfold startV
        rw [List.getD_eq_getElem?_getD]
        by_cases hj : j < min (leadN ps) l.length
        · rw [if_pos hj, List.getElem?_append_left (by simp; omega), List.getElem?_take_of_lt hj, List.getD_eq_getElem?_getD]
        · rw [if_neg hj, List.getElem?_append_right (by simp; omega), List.getElem?_replicate]
          split <;> rfl
      refine ⟨by simp [startV]; omega, by simp; omega, fun v hv => hl v (List.mem_of_mem_take hv), fun j hj ho => ?_, fun j hj ho => ?_, rfl, rfl, fun s => ?_⟩
      · simp only
        rw [hsv j]
        by_cases hjm : j < min (leadN ps) l.length
        · rw [if_pos hjm]
          have hf : ((ps.take (min (leadN ps) l.length)).map Par.s).findIdx? (sameN ps[j].s) = some j := by
            rw [List.findIdx?_eq_some_iff_getElem]
            refine ⟨by simp; omega, by simp [sameN_iff], fun i hij => ?_⟩
            have hib : i < ps.length := by omega
            simp only [List.getElem_map, List.getElem_take, Bool.not_eq_true]
            obtain ⟨_, hki⟩ := hlk i (by omega)
            exact sameN_false.2 (own_diff hg hib hj (by unfold own; simp [hki]) ho (by omega))
          rw [hf]
          simp only
          rw [List.getD_eq_getElem?_getD, List.getD_eq_getElem?_getD, List.getElem?_take_of_lt hjm]
        · rw [if_neg hjm]
          have hf : ((ps.take (min (leadN ps) l.length)).map Par.s).findIdx? (sameN ps[j].s) = none := by
            rw [List.findIdx?_eq_none_iff]
            intro x hx
            obtain ⟨i, hi, rfl⟩ := List.getElem_of_mem hx
            simp only [List.getElem_map, List.getElem_take]
            have hi' : i < min (leadN ps) l.length := by simp at hi; omega
            obtain ⟨hib, hki⟩ := hlk i hi'
            exact sameN_false.2 (own_diff hg hib hj (by unfold own; simp [hki]) ho (by omega))
          rw [hf]
      · simp only
        rw [hsv j, if_neg]
        intro h
        obtain ⟨_, hk⟩ := hlk j h
        unfold own at ho; simp [hk] at ho
      · simp only [List.any_nil, Bool.false_eq_true, false_iff, not_and]
        intro h
        rw [List.any_eq_true] at h
        obtain ⟨x, hx, hs⟩ := h
        obtain ⟨i, hi, rfl⟩ := List.getElem_of_mem hx
        have hi' : i < min (leadN ps) l.length := by simp at hi; omega
        obtain ⟨hib, hki⟩ := hlk i hi'
        simp only [List.getElem_map, List.getElem_take] at hs
        intro hat
        exact at_none hat i hib (by unfold own; simp [hki]) (sameN_iff.1 hs)
    rcases go_eq hg hu nv _ _ hI hnv with ⟨m, h1, h2⟩ | ⟨st, rs, h1, h2, hI'⟩
    · rw [h1, h2]
    · rw [h1, h2]
      simp only
      rcases rest_eq hg hu rs.ns rs.gs ds hI'.glen hI'.ok ps 0 0 st.vals rfl hI'.len (fun j h _ => hI'.own j h) (fun j h _ => hI'.oth j h) with ⟨m, h3, h4⟩ | ⟨vs, h3, h4⟩
      · rw [List.drop_zero] at h3
        rw [h3, h4]
      · rw [List.drop_zero] at h4
        rw [h3, h4, hr, hI'.nm, hI'.nd]
        simp
end
end Go.Proofs.Ytbickehhnkhabaa
