/- AttributeSpecialMatchesSpec: the given statement. Condition: what the law reads is of bulk at most 1048576 (the second form); the listed variables start as the program's text lays them. -/
import Derived.Test.YtonogeiopicibaaGreatDoorM22
import Derived.Test.YtonogeiopicibaaGreatDoorRows
import Derived.Test.YtonogeiopicibaaGreatDoorM21
import Derived.ProofKit
import Derived.OpenShut
import Derived.ShutString
import Derived.Deep.Slices
import Derived.Test.YtonogeiopicibaaGreatDoorM11
import Derived.Deep.Matrix
import Derived.ChangeOld
import Derived.Below
import Derived.SizedLaws
import Derived.Test.YtonogeiopicibaaGreatDoorCards
import Derived.Test.YtonogeiopicibaaGreatDoorTie
import Derived.Lib.LaidU8T
import Derived.Deep.DeepHandedRow
import Derived.Deep.DeepWitnessRowRef
import Derived.Lib.LaidTab
import Derived.Shelf.Vars

/- Walks by the evaluator: names of attributes. -/
namespace Go.Proofs.YtonogeiopicibaaGreatDoor
open Go.RowKit
variable {md me : Bool}

theorem kinds_a {k : Nat} (hk : k < 21) (ha : Lib.contains (usedS (k : Int)).data.toList [97] = true) : k = 9 ∨ k = 10 ∨ k = 11 := by
  have := List.all_eq_true.1 (show (List.range 21).all (fun (k : Nat) => !(Lib.contains (usedS (k : Int)).data.toList [97]) || decide (k = 9 ∨ k = 10 ∨ k = 11)) = true by decide +kernel) k (List.mem_range.2 hk)
  rw [ha, Bool.not_true, Bool.false_or] at this
  exact of_decide_eq_true this
theorem names_kind {o : Ob} (hk : 0 ≤ o.kind ∧ o.kind < 21) (hs : shapeS o = 0) (hz : o.names ≠ []) : o.kind = 9 ∨ o.kind = 10 ∨ o.kind = 11 := by
  unfold shapeS at hs
  split at hs
  · rename_i ha
    have h3 := List.all_eq_true.1 ha 3 (by decide)
    have hz' : ¬ (o.names.length : Int) = 0 := fun e => hz (List.eq_nil_of_length_eq_zero (by omega))
    have e : Lib.contains (usedS o.kind).data.toList [97] = true := by
      have h4 : (!(!(decide ((o.names.length : Int) = 0)) && !(Lib.contains (usedS o.kind).data.toList [97]))) = true := h3
      rw [decide_eq_false hz'] at h4
      simpa using h4
    have hkk : o.kind = ((o.kind.toNat : Nat) : Int) := by omega
    rw [hkk] at e
    have h5 := kinds_a (k := o.kind.toNat) (by omega) e
    omega
  · cases hs
theorem names_200 {o : Ob} (hs : sizesS o = 0) : o.names.length ≤ 200 := by
  unfold sizesS at hs
  split at hs
  · cases hs
  · split at hs
    · cases hs
    · rename_i h1
      simp only [Bool.or_eq_true, decide_eq_true_eq, not_or] at h1
      omega
theorem nm_200 {h : List Ob} (g : Uh h) {n : Int} (hn : inH h n) : (obAt h n).names.length ≤ 200 := by
  by_cases h49 : n.toNat < 49
  · rw [show obAt h n = bgO n.toNat from g.lo_at h49]; exact Nat.zero_le _
  · exact names_200 (g.hi_at (i := n.toNat) (by omega) hn.2).sizes
def nameB : ByteArray := ⟨#[110, 97, 109, 101]⟩
def orderB : ByteArray := ⟨#[111, 114, 100, 101, 114]⟩
def clB (h : List Ob) (v : Vl) : Bool := (decide (v.k = 7) || decide ((objS h v).kind = 7)) || decide ((objS h v).kind = 8)
/-- The classes whose names count. -/
def ordS (h : List Ob) (v : Vl) : List Int := if (objS h v).kind = 10 then (obAt h (objS h v).cls).order else if (objS h v).kind = 9 then (objS h v).order else []
def mtN (h : List Ob) (v : Vl) : List ByteArray := if clB h v = true then mtL (clA h v) ++ [nameB] else mtL (clA h v)
def nm1 (h : List Ob) (v : Vl) : List ByteArray := if (objS h v).kind = 10 then (objS h v).names else if (objS h v).kind = 9 then (objS h v).names ++ [nameB, orderB] else if (objS h v).kind = 11 then (objS h v).names else if clB h v = true then ((objS h v).names ++ mtL (clA h v)) ++ [nameB] else (objS h v).names ++ mtL (clA h v)
def nm2 (h : List Ob) (v : Vl) : List ByteArray := if (objS h v).kind = 10 then (objS h v).names else if (objS h v).kind = 9 then [nameB, orderB] else if (objS h v).kind = 11 then (objS h v).names else mtN h v
/-- Names and those of these classes. -/
def catN (h : List Ob) (l : List ByteArray) (o : List Int) : List ByteArray := o.foldl (fun a c => a ++ (obAt h c).names) l
theorem catN_next (h : List Ob) (l : List ByteArray) {o : List Int} {k : Nat} (hk : k < o.length) : catN h l (o.take (k + 1)) = catN h l (o.take k) ++ (obAt h (o.getD (k : Int).toNat 0)).names := by
  rw [getD_l hk]
  unfold catN
  rw [List.take_add_one, List.getElem?_eq_getElem hk, List.foldl_append]
  rfl
theorem catN_len {h : List Ob} (n : Nat) : ∀ {o : List Int} {l : List ByteArray}, (∀ c ∈ o, (obAt h c).names.length ≤ n) → (catN h l o).length ≤ l.length + n * o.length
  | [], l, _ => by show l.length ≤ _; omega
  | c :: o, l, hc => by
    have := catN_len n (o := o) (l := l ++ (obAt h c).names) fun d hd => hc d (List.mem_cons_of_mem _ hd)
    have := hc c List.mem_cons_self
    show (catN h (l ++ (obAt h c).names) o).length ≤ _
    rw [List.length_append] at *
    rw [List.length_cons, Nat.mul_succ]
    omega
theorem mem_catN {h : List Ob} {x : ByteArray} : ∀ {o : List Int} {l : List ByteArray}, x ∈ catN h l o ↔ x ∈ l ∨ ∃ c ∈ o, x ∈ (obAt h c).names
  | [], l => by show x ∈ l ↔ _; simp
  | c :: o, l => by
    show x ∈ catN h (l ++ (obAt h c).names) o ↔ _
    rw [mem_catN, List.mem_append]
    constructor
    · rintro ((h1 | h1) | ⟨d, h1, h2⟩)
      · exact .inl h1
      · exact .inr ⟨c, List.mem_cons_self, h1⟩
      · exact .inr ⟨d, List.mem_cons_of_mem _ h1, h2⟩
    · rintro (h1 | ⟨d, h1, h2⟩)
      · exact .inl (.inl h1)
      · rcases List.mem_cons.1 h1 with rfl | h1
        · exact .inl (.inr h2)
        · exact .inr ⟨d, h1, h2⟩
theorem ite_len {p : Prop} [Decidable p] {a b : List ByteArray} {n : Nat} (h1 : a.length ≤ n) (h2 : b.length ≤ n) : (if p then a else b).length ≤ n := by
  by_cases h : p
  · rw [if_pos h]; exact h1
  · rw [if_neg h]; exact h2
theorem mtL_len (c : Int) : (mtL c).length ≤ 20 := by
  unfold mtL
  repeat' refine ite_len ?_ ?_
  all_goals exact Nat.le_of_ble_eq_true (by decide +kernel)
def namesS_ (h : List Ob) (v : Vl) : List ByteArray := uniS (catN h (nm1 h v) (ordS h v))
def namesOfS (h : List Ob) (v : Vl) : List ByteArray := uniS (catN h (nm2 h v) (ordS h v))
theorem ord_cok {h : List Ob} (hh : HpIn h) (g : Uh h) (v : Vl) : Cok h (ordS h v) := by
  unfold ordS
  split
  · rename_i hk; exact cok_of hh g (inst_cls g hk)
  · split
    · rename_i hk
      have h1 := objS_of (h := h) (v := v) (by omega)
      rw [h1.2.2]
      exact cok_of hh g (isObj_in h1.2.1)
    · exact ⟨Nat.zero_le _, fun _ h => by cases h⟩
theorem ord_len {h : List Ob} (hh : HpIn h) (g : Uh h) (v : Vl) (l : List ByteArray) (k : Nat) (hk : k ≤ (ordS h v).length) : (catN h l ((ordS h v).take k)).length ≤ l.length + 200 * k := by
  have hc := ord_cok hh g v
  have := catN_len (h := h) 200 (o := (ordS h v).take k) (l := l) fun c h1 => nm_200 g (hc.2 c (List.mem_of_mem_take h1)).1
  rwa [List.length_take, Nat.min_eq_left hk] at this
theorem app_len {h : List Ob} (hh : HpIn h) (g : Uh h) (v : Vl) (l : List ByteArray) (k : Nat) (hl : l.length ≤ 2000100) (hk : k < (ordS h v).length) : (catN h l ((ordS h v).take k)).length + ((obAt h ((ordS h v).getD (k : Int).toNat 0)).names.map sD).length ≤ 1073741824 := by
  have h1 := (ord_cok hh g v).1
  have h2 := ord_len hh g v l k (by omega)
  have h3 := nm_200 g ((ord_cok hh g v).2 _ (show (ordS h v).getD (k : Int).toNat 0 ∈ ordS h v by rw [getD_l hk]; exact List.getElem_mem _)).1
  rw [List.length_map]
  omega
theorem app_len2 {h : List Ob} (hh : HpIn h) (g : Uh h) (v : Vl) (l : List ByteArray) (k : Nat) (hl : l.length ≤ 2000100) (hk : k < (ordS h v).length) : ((catN h l ((ordS h v).take k)).map sD).length + ((obAt h ((ordS h v).getD (k : Int).toNat 0)).names.map sD).length ≤ 1073741824 := by
  have := app_len hh g v l k hl hk
  simp only [List.length_map] at this ⊢
  exact this
theorem nm1_len {h : List Ob} (hh : HpIn h) (v : Vl) : (nm1 h v).length ≤ 2000100 := by
  have h1 := (objS_in hh v).nl
  have h2 := mtL_len (clA h v)
  unfold nm1
  repeat' split
  all_goals (try simp only [List.length_append, List.length_cons, List.length_nil])
  all_goals omega
theorem nm2_len {h : List Ob} (hh : HpIn h) (v : Vl) : (nm2 h v).length ≤ 2000100 := by
  have h1 := (objS_in hh v).nl
  have h2 := mtL_len (clA h v)
  unfold nm2 mtN
  repeat' split
  all_goals (try simp only [List.length_append, List.length_cons, List.length_nil])
  all_goals omega
/-- The names of attributes are the same. -/
theorem names_same {h : List Ob} (g : Uh h) (v : Vl) : namesS_ h v = namesOfS h v := by
  refine uniS_eq fun x => ?_
  rw [mem_catN, mem_catN]
  unfold nm1 nm2
  by_cases h10 : (objS h v).kind = 10
  · rw [if_pos h10, if_pos h10]
  · rw [if_neg h10, if_neg h10]
    by_cases h9 : (objS h v).kind = 9
    · rw [if_pos h9, if_pos h9, List.mem_append]
      have h1 := objS_of (h := h) (v := v) (by omega)
      have hin := isObj_in h1.2.1
      constructor
      · rintro ((h2 | h2) | h2)
        · refine .inr ⟨v.r, ?_, by rw [← h1.2.2]; exact h2⟩
          rw [ordS, if_neg h10, if_pos h9]
          rw [h1.2.2] at h2 h9 ⊢
          by_cases h49 : v.r.toNat < 49
          · rw [show obAt h v.r = bgO v.r.toNat from g.lo_at h49] at h2; cases h2
          · have u := g.hi_at (i := v.r.toNat) (by omega) hin.2
            have ho := u.order
            rw [← obAt_nat hin, orderOkS, if_neg (fun hh => hh h9), Bool.and_eq_true, decide_eq_true_eq, decide_eq_true_eq] at ho
            rw [ho.2]
            refine List.mem_append_left _ ?_
            rw [List.mem_singleton]
            have := hin.1
            omega
        · exact .inl h2
        · exact .inr h2
      · rintro (h2 | h2)
        · exact .inl (.inr h2)
        · exact .inr h2
    · rw [if_neg h9, if_neg h9]
      by_cases h11 : (objS h v).kind = 11
      · rw [if_pos h11, if_pos h11]
      · rw [if_neg h11, if_neg h11]
        have hz : (objS h v).names = [] := by
          by_cases h0 : (objS h v).kind = 0
          · by_cases hk : v.k = 6 ∧ isObj h v.r = true
            · rw [show objS h v = obAt h v.r from if_pos hk] at h0 ⊢
              have := (g.kind hk.2).1
              omega
            · rw [show objS h v = ob0 from if_neg hk]; rfl
          · have h1 := objS_of h0
            have hin := isObj_in h1.2.1
            by_cases h49 : v.r.toNat < 49
            · rw [h1.2.2, show obAt h v.r = bgO v.r.toNat from g.lo_at h49]; rfl
            · have u := g.hi_at (i := v.r.toNat) (by omega) hin.2
              by_cases hne : (objS h v).names = []
              · exact hne
              · rw [h1.2.2] at hne h9 h10 h11
                rcases names_kind u.kind u.shape hne with h2 | h2 | h2
                · exact absurd h2 h9
                · exact absurd h2 h10
                · exact absurd h2 h11
        unfold mtN
        rw [hz, List.nil_append]
theorem CompactS_n (la : List ByteArray) (n : Nat) (hn : la.length = n) (hl : la.length ≤ 1000000000) :
    FnG Tryz.prog 33 [.mo 0 n] [.mrow 9 1 (.map la sbD ByteArray.empty)] (.sl false 1 (compS la) sbD ByteArray.empty) [.row 9 1 n] := by
  subst hn; exact CompactS_G la hl

theorem lenBig {α : Type} {β : Type 1} {l : List α} {f : α → β} (h : l.length ≤ 1000000000) : (l.map f).length ≤ 1073741824 := by rw [List.length_map]; omega
theorem CloneS_big (l : List ByteArray) (hl : l.length ≤ 1000000000) : FnO Tryz.prog 30 [ssD l] 9 1 (l.map sD) := by
  refine fnO_ev Tryz.func30 rfl rfl rfl rfl rfl rfl ?_
  intro w0 s0 mx
  refine ev_seq (ev_region tabT [5] 100 rfl ?_)
  repeat (first | refine sat_same ?_ | refine sat_impA ?_ | refine sat_need (by exact lenBig hl) ?_)
  refine sat_done ?_
  refine exS_normal ?_
  refine ev_seq ?_
  refine ev_seq ?_
  refine ev_nilRegion Tryz.underlying38 rfl rfl rfl fun c hc => ?_
  refine exS_normal ?_
  refine ev_cond rfl (fun c1 => ?_) (fun c1 => ?_)
  · 
    refine ev_seq (ev_region tabT [5] 300 rfl ?_)
    repeat (first | refine sat_same ?_ | refine sat_impA ?_ | refine sat_need (by exact lenBig hl) ?_)
    refine sat_done ?_
    refine exS_normal ?_
    refine ev_ret ?_
    refine exS_ret ?_
    exact FinO.nil rfl (by rw [hc c1]; rfl)
  · 
    refine ev_skip ?_
    refine exS_normal ?_
    refine ev_seq (ev_region tabT [5] 400 rfl ?_)
    repeat (first | refine sat_same ?_ | refine sat_impA ?_ | refine sat_need (by first | rfl | exact lenBig hl | (rw [List.length_nil]; have := lenBig (f := sD) hl; omega) | (have := lenBig (f := sD) hl; simp at this ⊢; omega)) ?_)
    refine sat_done ?_
    refine exS_normal ?_
    refine ev_ret ?_
    exact FinO.ret rfl rfl rfl rfl

theorem Unique_ok (l : List ByteArray) (hl : l.length ≤ 1000000000) : Fn Tryz.prog 36 [ssD l] (ssD (uniS l)) := by
  refine fn_ev tabT Tryz.func36 rfl rfl rfl rfl rfl rfl ?_
  intro w0 s0 mx
  refine ev_R tabT [] 100 ?_
  refine ev_seq (ev_region tabT [1004] 200 rfl ?_)
  repeat (first | refine sat_same ?_ | refine sat_impA ?_ | refine sat_needA ?_)
  refine sat_fnH _ _ ((fnO_G (CloneS_big l hl))) rfl ?_
  repeat (first | refine sat_same ?_ | refine sat_impA ?_ | refine sat_needA ?_)
  refine sat_done ?_
  refine exS_normal ?_
  refine ev_seq (ev_region tabT [1006] 300 rfl ?_)
  repeat (first | refine sat_same ?_ | refine sat_impA ?_ | refine sat_needA ?_)
  refine sat_fnH _ _ (SortS_G l (by omega)) rfl ?_
  repeat (first | refine sat_same ?_ | refine sat_impA ?_ | refine sat_needA ?_)
  refine sat_done ?_
  refine exS_normal ?_
  refine ev_seq (ev_region tabT [1008] 400 rfl ?_)
  repeat (first | refine sat_same ?_ | refine sat_impA ?_ | refine sat_needA ?_)
  refine sat_fnH _ _ (CompactS_n (sortS l) _ (sortS_len l) (by rw [sortS_len]; omega)) rfl ?_
  repeat (first | refine sat_same ?_ | refine sat_impA ?_ | refine sat_needA ?_)
  refine sat_done ?_
  refine exS_normal ?_
  refine ev_ret ?_
  exact FinV.ret rfl (SubP.refl _)

set_option maxHeartbeats 1000000 in
theorem Names_ok (h : List Ob) (v : Vl) (hh : HpIn h) (g : Uh h) (hv : hasS h v = true) : Fn Tryz.prog 11 [hpD md h, .agg (vlD v)] (ssD (namesS_ h v)) := by
  have hob := objS_in hh v
  have hcf := cf_of g hv
  have hc := ord_cok hh g v
  have hl1 := nm1_len hh v
  have hol := hc.1
  refine fn_ev tabT Tryz.func11 rfl rfl rfl rfl rfl rfl ?_
  intro w0 s0 mx
  refine ev_R tabT [] 100 ?_
  refine ev_seq (ev_region tabT [] 200 rfl ?_)
  repeat (first | refine sat_same ?_ | refine sat_impA ?_ | refine sat_needA ?_)
  refine sat_fn _ (attrObject_ok h v (has_obj hv)) rfl ?_
  repeat (first | refine sat_same ?_ | refine sat_impA ?_ | refine sat_needA ?_)
  refine sat_done ?_
  refine exS_normal ?_
  refine ev_seq (ev_region tabT [1015] 300 rfl ?_)
  repeat (first | refine sat_same ?_ | refine sat_impA ?_ | refine sat_needA ?_)
  refine sat_fnH _ _ (CloneS_G _ hob.nl) rfl ?_
  repeat (first | refine sat_same ?_ | refine sat_impA ?_ | refine sat_needA ?_)
  refine sat_done ?_
  refine exS_normal ?_
  refine ev_R tabT [] 400 ?_
  refine ev_joinK (ι := Unit) [2] [0] 1600 (fun _ => [(6, .mo 202 (nm1 h v).length), (7, isD (ordS h v))]) (fun _ => [(202, .mrow 9 1 (.map (nm1 h v) sD ByteArray.empty))]) ?_
  refine ⟨?_, fun j => ?_⟩
  · refine ev_R tabT [] 500 ?_
    refine ev_block ?_
    refine ev_R tabT [] 900 ?_
    refine ev_if (fun c8 => ?_) (fun c8 => ?_)
    · 
      refine ev_region tabT [] 1000 rfl ?_
      repeat (first | refine sat_same ?_ | refine sat_impA ?_ | refine sat_need (by exact inst_cls g c8) ?_)
      refine sat_done ?_
      refine exBl_normal ?_
      have e : nm1 h v = (objS h v).names := by rw [nm1, if_pos c8]
      have eo : ordS h v = (obAt h (objS h v).cls).order := by rw [ordS, if_pos c8]
      exact exJ_normal () ⟨⟨Sub.mo (by rw [e]), Sub.of_eq (by rw [eo]; rfl), le_t⟩, ⟨SubO.mr (by rw [e]; rfl), le_o⟩, rfl, rfl⟩
    · 
      refine ev_R tabT [] 1100 ?_
      refine ev_if (fun c10 => ?_) (fun c10 => ?_)
      · 
        refine ev_R tabT [] 1200 ?_
        refine ev_region tabT [] 1300 rfl ?_
        repeat (first | refine sat_same ?_ | refine sat_impA ?_ | refine sat_need (by first | rfl | (have := hob.nl; have := mtL_len (clA h v); simp only [List.length_map, List.length_cons, List.length_nil, MR.len]; omega)) ?_)
        refine sat_done ?_
        refine exBl_normal ?_
        have e : nm1 h v = (objS h v).names ++ [nameB, orderB] := by rw [nm1, if_neg c8, if_pos c10]
        have eo : ordS h v = (objS h v).order := by rw [ordS, if_neg c8, if_pos c10]
        exact exJ_normal () ⟨⟨Sub.mo (by rw [e, List.length_append]; rfl), Sub.of_eq (by rw [eo]; rfl), le_t⟩, ⟨SubO.mr (by show List.map sD _ ++ _ = List.map sD (nm1 h v); rw [e, List.map_append]; rfl), le_o⟩, rfl, rfl⟩
      · 
        refine ev_R tabT [] 1400 ?_
        refine ev_if (fun c13 => ?_) (fun c13 => ?_)
        · 
          refine ev_skip ?_
          refine exBl_normal ?_
          have e : nm1 h v = (objS h v).names := by rw [nm1, if_neg c8, if_neg c10, if_pos c13]
          have eo : ordS h v = [] := by rw [ordS, if_neg c8, if_neg c10]
          exact exJ_normal () ⟨⟨Sub.mo (by rw [e]), by rw [eo]; exact Sub.nilSl, le_t⟩, ⟨SubO.mr (by rw [e]; rfl), le_o⟩, rfl, rfl⟩
        · 
          refine ev_seq (ev_region tabT [] 1500 rfl ?_)
          repeat (first | refine sat_same ?_ | refine sat_impA ?_ | refine sat_need (by first | rfl | (have := hob.nl; have := mtL_len (clA h v); simp only [List.length_map]; omega)) ?_)
          refine sat_fn _ (heapClassOf_ok _ _ hcf) rfl ?_
          repeat (first | refine sat_same ?_ | refine sat_impA ?_ | refine sat_need (by first | rfl | (have := hob.nl; have := mtL_len (clA h v); simp only [List.length_map]; omega)) ?_)
          refine sat_fn _ (attrMethods_ok _) rfl ?_
          repeat (first | refine sat_same ?_ | refine sat_impA ?_ | refine sat_need (by first | rfl | (have := hob.nl; have := mtL_len (clA h v); simp only [List.length_map]; omega)) ?_)
          refine sat_done ?_
          refine exS_normal ?_
          refine ev_R tabT [] 1600 ?_
          refine ev_if (fun c6 => ?_) (fun c6 => ?_)
          · 
            refine ev_region tabT [] 1700 rfl ?_
            repeat (first | refine sat_same ?_ | refine sat_impA ?_ | refine sat_need (by first | rfl | (have := hob.nl; have := mtL_len (clA h v); simp only [List.length_map, List.length_cons, List.length_nil, MR.len]; omega)) ?_)
            refine sat_done ?_
            refine exBl_normal ?_
            have e : nm1 h v = ((objS h v).names ++ mtL (clA h v)) ++ [nameB] := by rw [nm1, if_neg c8, if_neg c10, if_neg c13, if_pos (by simpa [clB] using c6)]
            have eo : ordS h v = [] := by rw [ordS, if_neg c8, if_neg c10]
            exact exJ_normal () ⟨⟨Sub.mo (by rw [e, List.length_append, List.length_append, List.length_map]; rfl), by rw [eo]; exact Sub.nilSl, le_t⟩, ⟨SubO.mr (by show (List.map sD _ ++ List.map sD _) ++ _ = List.map sD (nm1 h v); rw [e, List.map_append, List.map_append]; rfl), le_o⟩, rfl, rfl⟩
          · 
            refine ev_skip ?_
            refine exBl_normal ?_
            have e : nm1 h v = (objS h v).names ++ mtL (clA h v) := by rw [nm1, if_neg c8, if_neg c10, if_neg c13, if_neg (by simpa [clB] using c6)]
            have eo : ordS h v = [] := by rw [ordS, if_neg c8, if_neg c10]
            exact exJ_normal () ⟨⟨Sub.mo (by rw [e, List.length_append, List.length_map]), by rw [eo]; exact Sub.nilSl, le_t⟩, ⟨SubO.mr (by show List.map sD _ ++ List.map sD _ = List.map sD (nm1 h v); rw [e, List.map_append]), le_o⟩, rfl, rfl⟩
  refine ev_seq ?_
  refine ev_R tabT [] 1700 ?_
  refine ev_block ?_
  refine ev_loopK (ι := {k : Nat // k ≤ (ordS h v).length}) [2, 58, 59] [0] 1700 (fun x => [(60, .v (.int .i64 x.1)), (6, .mo 202 (catN h (nm1 h v) ((ordS h v).take x.1)).length)]) (fun x => [(202, .mrow 9 1 (.map (catN h (nm1 h v) ((ordS h v).take x.1)) sD ByteArray.empty))]) (fun x => (ordS h v).length - x.1) ⟨0, Nat.zero_le _⟩ ?_
  refine ⟨⟨⟨Sub.int rfl, Sub.mo rfl, le_t⟩, ⟨SubO.mr rfl, le_o⟩, rfl, rfl⟩, fun x => ?_⟩
  have hk : x.1 ≤ (ordS h v).length := x.2
  refine ev_R tabT [] 1800 ?_
  refine ev_seq ?_
  refine ev_if (fun c15 => ?_) (fun c15 => ?_)
  · 
    refine ev_skip ?_
    refine exS_normal ?_
    refine ev_seq ?_
    refine ev_block ?_
    refine ev_R tabT [] 1900 ?_
    refine ev_region tabT [] 2000 rfl ?_
    repeat (first | refine sat_same ?_ | refine sat_impA ?_ | refine sat_need (by first | rfl | exact (hc.2 _ (by rw [getD_l c15]; exact List.getElem_mem _)).1 | exact app_len hh g v _ x.1 hl1 c15) ?_)
    refine sat_done ?_
    refine exBl_normal ?_
    refine exS_normal ?_
    refine ev_Q tabT [] 2100 ?_
    exact exL_normal (⟨x.1 + 1, by omega⟩) ⟨⟨Sub.int (by push_cast; rfl), Sub.mo (by rw [catN_next h _ c15, List.length_append, List.length_map]), le_t⟩, ⟨SubO.mr (by show List.map _ _ ++ List.map _ _ = _; rw [← List.map_append, ← catN_next h _ c15]; rfl), le_o⟩, rfl, rfl⟩ (by show (ordS h v).length - (x.1 + 1) < (ordS h v).length - x.1; omega)
  · 
    refine ev_exit ?_
    refine exS_exit ?_
    refine exL_exit ?_
    refine exBl_same ?_
    refine exS_normal ?_
    refine ev_seq (ev_region tabT [1074] 2000 rfl ?_)
    repeat (first | refine sat_same ?_ | refine sat_impA ?_ | refine sat_needA ?_)
    refine sat_fnH _ _ (SortS_G _ (by have := ord_len hh g v (nm1 h v) x.1 hk; omega)) rfl ?_
    repeat (first | refine sat_same ?_ | refine sat_impA ?_ | refine sat_needA ?_)
    refine sat_done ?_
    refine exS_normal ?_
    refine ev_seq (ev_region tabT [1076] 2100 rfl ?_)
    repeat (first | refine sat_same ?_ | refine sat_impA ?_ | refine sat_needA ?_)
    refine sat_fnH _ _ (CompactS_n (sortS _) _ (sortS_len _) (by rw [sortS_len]; have := ord_len hh g v (nm1 h v) x.1 hk; omega)) rfl ?_
    repeat (first | refine sat_same ?_ | refine sat_impA ?_ | refine sat_needA ?_)
    refine sat_done ?_
    refine exS_normal ?_
    refine ev_ret ?_
    have e : (ordS h v).take x.1 = ordS h v := List.take_of_length_le (by omega)
    exact FinV.ret rfl (SubP.of_eq (by rw [e]; rfl))

set_option maxHeartbeats 1000000 in
theorem NamesOf_ok (h : List Ob) (v : Vl) (hh : HpIn h) (g : Uh h) (hv : hasS h v = true) : Fn Tryz.prog 12 [hpD md h, .agg (vlD v)] (ssD (namesOfS h v)) := by
  have hob := objS_in hh v
  have hcf := cf_of g hv
  have hc := ord_cok hh g v
  have hl1 := nm2_len hh v
  have hol := hc.1
  refine fn_ev tabT Tryz.func12 rfl rfl rfl rfl rfl rfl ?_
  intro w0 s0 mx
  refine ev_R tabT [] 100 ?_
  refine ev_R tabT [] 200 ?_
  refine ev_R tabT [] 300 ?_
  refine ev_joinK (ι := Unit) [2] [0] 4000 (fun _ => [(5, .own 3000 1 ((nm2 h v).map sD)), (6, isD (ordS h v))]) (fun _ => [(3000, .row 9 1 (nm2 h v).length)]) ?_
  refine ⟨?_, fun j => ?_⟩
  · refine ev_seq (ev_region tabT [] 400 rfl ?_)
    repeat (first | refine sat_same ?_ | refine sat_impA ?_ | refine sat_needA ?_)
    refine sat_fn _ (Obj_ok _ _) rfl ?_
    repeat (first | refine sat_same ?_ | refine sat_impA ?_ | refine sat_needA ?_)
    refine sat_done ?_
    refine exS_normal ?_
    refine ev_R tabT [] 500 ?_
    refine ev_block ?_
    refine ev_R tabT [] 1000 ?_
    refine ev_if (fun c9 => ?_) (fun c9 => ?_)
    · 
      refine ev_tell [2, 7] [0, 303] 2998 [] [] ?_
      refine ⟨⟨le_t, le_o, rfl, rfl⟩, ?_⟩
      refine ev_drawn tabT [36] [[], [0], [0, 1], [], [3], [], [5], [3, 4, 5, 6], [3, 4, 5, 6, 7], [3, 4, 5, 6, 7, 8], [0, 1, 2], [0, 1, 2, 3, 4, 5, 6, 7, 8, 9, 10]] 3100 mixT (by kernel_rfl) rfl ?_
      repeat (first | refine sat_same ?_ | refine sat_impA ?_ | refine sat_need (by first | rfl | exact inst_cls g c9) ?_)
      refine sat_fnO _ _ _ (CloneS_ok _ hob.nl) ?_
      repeat (first | refine sat_same ?_ | refine sat_impA ?_ | refine sat_need (by first | rfl | exact inst_cls g c9) ?_)
      refine sat_done ?_
      refine exBl_normal ?_
      have e : nm2 h v = (objS h v).names := by rw [nm2, if_pos c9]
      have eo : ordS h v = (obAt h (objS h v).cls).order := by rw [ordS, if_pos c9]
      exact exJ_normal () ⟨⟨Sub.own (by rw [e]), Sub.of_eq (by rw [eo]; rfl), le_t⟩, ⟨⟨rfl, rfl, by rw [e, List.length_map]⟩, le_o⟩, rfl, rfl⟩
    · 
      refine ev_R tabT [] 1200 ?_
      refine ev_if (fun c11 => ?_) (fun c11 => ?_)
      · 
        refine ev_tell [2, 7] [0, 303] 3000 [] [] ?_
        refine ⟨⟨le_t, le_o, rfl, rfl⟩, ?_⟩
        refine ev_drawn tabT [46] [[], [], [1], [0], [0, 1, 2, 3]] 3100 mixT (by kernel_rfl) rfl ?_
        repeat (first | refine sat_same ?_ | refine sat_impA ?_ | refine sat_needA ?_)
        refine sat_done ?_
        refine exBl_normal ?_
        have e : nm2 h v = [nameB, orderB] := by rw [nm2, if_neg c9, if_pos c11]
        have eo : ordS h v = (objS h v).order := by rw [ordS, if_neg c9, if_pos c11]
        exact exJ_normal () ⟨⟨Sub.own (by rw [e]; rfl), Sub.of_eq (by rw [eo]; rfl), le_t⟩, ⟨⟨rfl, rfl, by rw [e]; rfl⟩, le_o⟩, rfl, rfl⟩
      · 
        refine ev_R tabT [] 1400 ?_
        refine ev_if (fun c13 => ?_) (fun c13 => ?_)
        · 
          refine ev_tell [2, 6, 7] [0, 303] 2998 [] [] ?_
          refine ⟨⟨le_t, le_o, rfl, rfl⟩, ?_⟩
          refine ev_region tabT [53] 3100 rfl ?_
          repeat (first | refine sat_same ?_ | refine sat_impA ?_ | refine sat_needA ?_)
          refine sat_fnO _ _ _ (CloneS_ok _ hob.nl) ?_
          repeat (first | refine sat_same ?_ | refine sat_impA ?_ | refine sat_needA ?_)
          refine sat_done ?_
          refine exBl_normal ?_
          have e : nm2 h v = (objS h v).names := by rw [nm2, if_neg c9, if_neg c11, if_pos c13]
          have eo : ordS h v = [] := by rw [ordS, if_neg c9, if_neg c11]
          exact exJ_normal () ⟨⟨Sub.own (by rw [e]), by rw [eo]; exact Sub.nilSl, le_t⟩, ⟨⟨rfl, rfl, by rw [e, List.length_map]⟩, le_o⟩, rfl, rfl⟩
        · 
          refine ev_tell [2, 3, 6] [0, 1] 2996 [] [] ?_
          refine ⟨⟨le_t, le_o, rfl, rfl⟩, ?_⟩
          refine ev_seq (ev_region tabT [21] 3100 rfl ?_)
          repeat (first | refine sat_same ?_ | refine sat_impA ?_ | refine sat_needA ?_)
          refine sat_fn _ (ClassOf_ok _ _ hcf) rfl ?_
          repeat (first | refine sat_same ?_ | refine sat_impA ?_ | refine sat_needA ?_)
          refine sat_fn _ (MethodsOf_ok _) rfl ?_
          repeat (first | refine sat_same ?_ | refine sat_impA ?_ | refine sat_needA ?_)
          refine sat_fnO _ _ _ (CloneS_ok _ (by have := mtL_len (clA h v); omega)) ?_
          repeat (first | refine sat_same ?_ | refine sat_impA ?_ | refine sat_needA ?_)
          refine sat_done ?_
          refine exS_normal ?_
          refine ev_seq (ev_region tabT [] 3200 rfl ?_)
          repeat (first | refine sat_same ?_ | refine sat_impA ?_ | refine sat_needA ?_)
          refine sat_fn _ (named_ok h v g) rfl ?_
          repeat (first | refine sat_same ?_ | refine sat_impA ?_ | refine sat_needA ?_)
          refine sat_done ?_
          refine exS_normal ?_
          refine ev_R tabT [] 3300 ?_
          refine ev_if (fun c7 => ?_) (fun c7 => ?_)
          · 
            refine ev_region tabT [] 3400 rfl ?_
            repeat (first | refine sat_same ?_ | refine sat_impA ?_ | refine sat_need (by first | rfl | (have := mtL_len (clA h v); simp only [List.length_map, List.length_cons, List.length_nil]; omega)) ?_)
            refine sat_done ?_
            refine exBl_normal ?_
            have e : nm2 h v = mtL (clA h v) ++ [nameB] := by rw [nm2, if_neg c9, if_neg c11, if_neg c13, mtN, if_pos (by rw [← c7]; exact (named_is h g v).symm)]
            have eo : ordS h v = [] := by rw [ordS, if_neg c9, if_neg c11]
            exact exJ_normal () ⟨⟨Sub.own (by rw [e, List.map_append]; rfl), by rw [eo]; exact Sub.nilSl, le_t⟩, ⟨⟨rfl, rfl, by rw [e]; simp only [List.length_append, List.length_map]; rfl⟩, le_o⟩, rfl, rfl⟩
          · 
            refine ev_skip ?_
            refine exBl_normal ?_
            have e : nm2 h v = mtL (clA h v) := by rw [nm2, if_neg c9, if_neg c11, if_neg c13, mtN, if_neg (by rw [clB, ← named_is h g v, c7]; decide)]
            have eo : ordS h v = [] := by rw [ordS, if_neg c9, if_neg c11]
            exact exJ_normal () ⟨⟨Sub.own (by rw [e]), by rw [eo]; exact Sub.nilSl, le_t⟩, ⟨⟨rfl, rfl, by rw [e, List.length_map]⟩, le_o⟩, rfl, rfl⟩
  refine ev_seq ?_
  refine ev_R tabT [] 4100 ?_
  refine ev_block ?_
  refine ev_loopK (ι := {k : Nat // k ≤ (ordS h v).length}) [2, 54, 55] [0] 4100 (fun x => [(56, .v (.int .i64 x.1)), (5, .own 3000 1 ((catN h (nm2 h v) ((ordS h v).take x.1)).map sD))]) (fun x => [(3000, .row 9 1 (catN h (nm2 h v) ((ordS h v).take x.1)).length)]) (fun x => (ordS h v).length - x.1) ⟨0, Nat.zero_le _⟩ ?_
  refine ⟨⟨⟨Sub.int rfl, Sub.own rfl, le_t⟩, ⟨⟨rfl, rfl, rfl⟩, le_o⟩, rfl, rfl⟩, fun x => ?_⟩
  have hk : x.1 ≤ (ordS h v).length := x.2
  refine ev_R tabT [] 4200 ?_
  refine ev_seq ?_
  refine ev_if (fun c16 => ?_) (fun c16 => ?_)
  · 
    refine ev_skip ?_
    refine exS_normal ?_
    refine ev_seq ?_
    refine ev_block ?_
    refine ev_R tabT [] 4300 ?_
    refine ev_region tabT [] 4400 rfl ?_
    repeat (first | refine sat_same ?_ | refine sat_impA ?_ | refine sat_need (by first | rfl | exact (hc.2 _ (by rw [getD_l c16]; exact List.getElem_mem _)).1 | exact List.length_map _ | exact app_len2 hh g v _ x.1 hl1 c16) ?_)
    refine sat_done ?_
    refine exBl_normal ?_
    refine exS_normal ?_
    refine ev_Q tabT [] 4500 ?_
    exact exL_normal (⟨x.1 + 1, by omega⟩) ⟨⟨Sub.int (by push_cast; rfl), Sub.own (by rw [catN_next h _ c16, List.map_append]), le_t⟩, ⟨⟨rfl, rfl, by rw [catN_next h _ c16]; simp only [List.length_append, List.length_map]⟩, le_o⟩, rfl, rfl⟩ (by show (ordS h v).length - (x.1 + 1) < (ordS h v).length - x.1; omega)
  · 
    refine ev_exit ?_
    refine exS_exit ?_
    refine exL_exit ?_
    refine exBl_same ?_
    refine exS_normal ?_
    refine ev_seq (ev_region tabT [] 4300 rfl ?_)
    repeat (first | refine sat_same ?_ | refine sat_impA ?_ | refine sat_needA ?_)
    refine sat_fn _ ((Unique_ok (catN h (nm2 h v) ((ordS h v).take x.1)) (by have := ord_len hh g v (nm2 h v) x.1 hk; omega)).args ⟨SubP.ownSl (k := 3000) rfl, trivial⟩) rfl ?_
    repeat (first | refine sat_same ?_ | refine sat_impA ?_ | refine sat_needA ?_)
    refine sat_done ?_
    refine exS_normal ?_
    refine ev_ret ?_
    have e : (ordS h v).take x.1 = ordS h v := List.take_of_length_le (by omega)
    exact FinV.ret rfl (SubP.of_eq (by rw [e]; rfl))

end Go.Proofs.YtonogeiopicibaaGreatDoor

/- Walks by the evaluator: the law of special methods and names of attributes. -/
namespace Go.Proofs.YtonogeiopicibaaGreatDoor
open Go.RowKit
variable {md me : Bool}

set_option maxHeartbeats 1000000 in
theorem Law_ok (h : List Ob) (v : Vl) (c : Int) (s : ByteArray) (hh : HpIn h) (hiv : VlIn v) (hs : s.size ≤ 2000000) : Fn Tryz.prog 3 [hpD md h, .agg (vlD v), .v (.int .i64 c), .v (.string s)] (.v (.bool true)) := by
  refine fn_ev tabT Tryz.func3 rfl rfl rfl rfl rfl rfl ?_
  intro w0 s0 mx
  refine ev_R tabT [] 100 ?_
  refine ev_seq ?_
  refine ev_seq (ev_region tabT [] 200 rfl ?_)
  repeat (first | refine sat_same ?_ | refine sat_impA ?_ | refine sat_needA ?_)
  refine sat_fn _ ((Usable_ok h [v] hh (fun u hu => by simp only [List.mem_singleton] at hu; rw [hu]; exact hiv) (by show 1 ≤ 2000000; omega)).args ⟨SubP.refl _, SubP.slrSl rfl, trivial⟩) rfl ?_
  repeat (first | refine sat_same ?_ | refine sat_impA ?_ | refine sat_needA ?_)
  refine sat_fnG _ (fun hg7 => NameText_ok s) rfl ?_
  repeat (first | refine sat_same ?_ | refine sat_impA ?_ | refine sat_needA ?_)
  refine sat_done ?_
  refine exS_normal ?_
  refine ev_cond rfl (fun c1 => ?_) (fun c1 => ?_)
  · 
    refine ev_R tabT [] 300 ?_
    refine ev_ret ?_
    refine exS_ret ?_
    exact FinV.ret rfl (SubP.refl _)
  · have hq : ((problemS h).1 = 0 ∧ hasS h v = true) ∧ nameOkS s = true := by
      have hu : usableS h [v] = true ∧ nameOkS s = true := by simpa using c1
      refine ⟨?_, hu.2⟩
      have hu := hu.1
      simp only [usableS, Bool.and_eq_true, decide_eq_true_eq, List.all_cons, List.all_nil, Bool.and_true] at hu
      exact hu
    have g : Uh h := uh_of hq.1.1
    have hv := hq.1.2
    have hvo := has_obj hv
    refine ev_skip ?_
    refine exS_normal ?_
    refine ev_seq (ev_region tabT [] 400 rfl ?_)
    repeat (first | refine sat_same ?_ | refine sat_impA ?_ | refine sat_needA ?_)
    refine sat_fn _ (Special_ok h v s hh g hvo) rfl ?_
    repeat (first | refine sat_same ?_ | refine sat_impA ?_ | refine sat_needA ?_)
    refine sat_done ?_
    refine exS_normal ?_
    refine ev_seq (ev_region tabT [] 500 rfl ?_)
    repeat (first | refine sat_same ?_ | refine sat_impA ?_ | refine sat_needA ?_)
    refine sat_fn _ (Method_ok h v s hh g hvo) rfl ?_
    repeat (first | refine sat_same ?_ | refine sat_impA ?_ | refine sat_needA ?_)
    refine sat_done ?_
    refine exS_normal ?_
    refine ev_seq ?_
    refine ev_seq (ev_drawn tabT [] [[], [], [0, 1], [0, 1, 2], [0, 1, 2, 3], [0, 1, 2, 3], [0, 1, 2, 3, 4, 5], [0, 1, 2, 3, 4, 5, 6], [0, 1, 2, 3, 4, 5, 6, 7], [0, 1, 2, 3, 4, 5, 6, 7, 8], [0, 1, 2, 3, 4, 5, 6, 7, 8, 9], [0, 1, 2, 3, 4, 5, 6, 7, 8, 9], [0, 1, 2, 3, 4, 5, 6, 7, 8, 9, 10, 11], [0, 1, 2, 3, 4, 5, 6, 7, 8, 9, 10, 11, 12], [0, 1, 2, 3, 4, 5, 6, 7, 8, 9, 10, 11, 12, 13], [0, 1, 2, 3, 4, 5, 6, 7, 8, 9, 10, 11, 12, 13, 14], [0, 1, 2, 3, 4, 5, 6, 7, 8, 9, 10, 11, 12, 13, 14, 15], [0, 1, 2, 3, 4, 5, 6, 7, 8, 9, 10, 11, 12, 13, 14, 15], [0, 1, 2, 3, 4, 5, 6, 7, 8, 9, 10, 11, 12, 13, 14, 15, 16, 17], [0, 1, 2, 3, 4, 5, 6, 7, 8, 9, 10, 11, 12, 13, 14, 15], [0, 1, 2, 3, 4, 5, 6, 7, 8, 9, 10, 11, 12, 13, 14, 15], [0, 1, 2, 3, 4, 5, 6, 7, 8, 9, 10, 11, 12, 13, 14, 15, 16, 17, 18, 19, 20], [0, 1, 2, 3, 4, 5, 6, 7, 8, 9, 10, 11, 12, 13, 14, 15, 16, 17, 18, 19, 20, 21], [0, 1, 2, 3, 4, 5, 6, 7, 8, 9, 10, 11, 12, 13, 14, 15, 16, 17, 18, 19, 20, 21, 22], [0, 1, 2, 3, 4, 5, 6, 7, 8, 9, 10, 11, 12, 13, 14, 15, 16, 17, 18, 19, 20, 21, 22, 23]] 600 mixT (by kernel_rfl) rfl ?_)
    repeat (first | refine sat_same ?_ | refine sat_impA ?_ | refine sat_needA ?_)
    refine sat_fnG _ (fun hg6 => SameValue_ok _ _) rfl ?_
    repeat (first | refine sat_same ?_ | refine sat_impA ?_ | refine sat_needA ?_)
    refine sat_fnG _ (fun hg12 => SameValues_ok _ _) rfl ?_
    repeat (first | refine sat_same ?_ | refine sat_impA ?_ | refine sat_needA ?_)
    refine sat_fnG _ (fun hg18 => Names_ok h v hh g hv) rfl ?_
    repeat (first | refine sat_same ?_ | refine sat_impA ?_ | refine sat_needA ?_)
    refine sat_fnG _ (fun hg21 => NamesOf_ok h v hh g hv) rfl ?_
    repeat (first | refine sat_same ?_ | refine sat_impA ?_ | refine sat_needA ?_)
    refine sat_fnG _ (fun hg22 => Strings_ok _ _) rfl ?_
    repeat (first | refine sat_same ?_ | refine sat_impA ?_ | refine sat_needA ?_)
    refine sat_done ?_
    refine exS_normal ?_
    refine ev_cond rfl (fun c5 => ?_) (fun c5 => ?_)
    · exfalso; simp [names_same g v] at c5
      done
    · 
      refine ev_skip ?_
      refine exS_normal ?_
      refine ev_seq ?_
      refine ev_seq (ev_region tabT [] 800 rfl ?_)
      repeat (first | refine sat_same ?_ | refine sat_impA ?_ | refine sat_needA ?_)
      refine sat_fnG _ (fun hg8 => attrMethods_ok _) rfl ?_
      repeat (first | refine sat_same ?_ | refine sat_impA ?_ | refine sat_needA ?_)
      refine sat_fnG _ (fun hg10 => MethodsOf_ok _) rfl ?_
      repeat (first | refine sat_same ?_ | refine sat_impA ?_ | refine sat_needA ?_)
      refine sat_fnG _ (fun hg11 => Strings_ok _ _) rfl ?_
      repeat (first | refine sat_same ?_ | refine sat_impA ?_ | refine sat_needA ?_)
      refine sat_done ?_
      refine exS_normal ?_
      refine ev_cond rfl (fun c7 => ?_) (fun c7 => ?_)
      · exfalso; simp at c7
        done
      · 
        refine ev_skip ?_
        refine exS_normal ?_
        refine ev_seq ?_
        refine ev_seq (ev_region tabT [] 1000 rfl ?_)
        repeat (first | refine sat_same ?_ | refine sat_impA ?_ | refine sat_need (by first | rfl | (intro hh; exact isObj_in (by simpa using hh))) ?_)
        refine sat_fn _ (IsObject_ok _ _) rfl ?_
        repeat (first | refine sat_same ?_ | refine sat_impA ?_ | refine sat_need (by first | rfl | (intro hh; exact isObj_in (by simpa using hh))) ?_)
        refine sat_done ?_
        refine exS_normal ?_
        refine ev_cond rfl (fun c9 => ?_) (fun c9 => ?_)
        · 
          refine ev_R tabT [] 1100 ?_
          refine ev_ret ?_
          refine exS_ret ?_
          exact FinV.ret rfl (SubP.refl _)
        · have hin : inH h c := isObj_in (by simp at c9; exact c9.1)
          have hck := cok_of hh g hin
          refine ev_skip ?_
          refine exS_normal ?_
          refine ev_seq (ev_region tabT [] 1200 rfl ?_)
          repeat (first | refine sat_same ?_ | refine sat_impA ?_ | refine sat_needA ?_)
          refine sat_fn _ (attrFind_ok h c s hh hin hck) rfl ?_
          repeat (first | refine sat_same ?_ | refine sat_impA ?_ | refine sat_needA ?_)
          refine sat_done ?_
          refine exS_normal ?_
          refine ev_seq (ev_drawn tabT [] [[], [], [1], [], [1, 2, 3], [1, 2, 3, 4], [1, 2, 3, 4, 5], [], [0, 1, 2, 3, 4, 5, 6, 7], [0, 1, 2, 3, 4, 5, 6, 7, 8], [0, 1, 2, 3, 4, 5, 6, 7, 8, 9], [0, 1, 2, 3, 4, 5, 6, 7, 8, 9], [0, 1, 2, 3, 4, 5, 6, 7, 8, 9], [], [0, 1, 2, 3, 4, 5, 6, 7, 8, 9, 10, 13], [0, 1, 2, 3, 4, 5, 6, 7, 8, 9, 10, 11, 13, 14], [0, 1, 2, 3, 4, 5, 6, 7, 8, 9, 10, 11, 12, 13, 14, 15]] 1300 mixT (by kernel_rfl) rfl ?_)
          repeat (first | refine sat_same ?_ | refine sat_impA ?_ | refine sat_need (by first | rfl | exact hin) ?_)
          refine sat_fn _ (Among_ok h (obAt h c).order s hh hck) rfl ?_
          repeat (first | refine sat_same ?_ | refine sat_impA ?_ | refine sat_need (by first | rfl | exact hin) ?_)
          refine sat_done ?_
          refine exS_normal ?_
          refine ev_seq (ev_region tabT [] 1400 rfl ?_)
          repeat (first | refine sat_same ?_ | refine sat_impA ?_ | refine sat_needA ?_)
          refine sat_fnG _ (fun hg11 => SameValue_ok _ _) rfl ?_
          repeat (first | refine sat_same ?_ | refine sat_impA ?_ | refine sat_needA ?_)
          refine sat_done ?_
          refine exS_normal ?_
          refine ev_ret ?_
          exact FinV.ret rfl (SubP.bool (by simp))

end Go.Proofs.YtonogeiopicibaaGreatDoor

/- Arguments opened: what a reading of a value, an object, a heap gives as data. -/
namespace Go.Proofs.YtonogeiopicibaaGreatDoor
open Go.ChangeShapes Go.WideShapes Go.ChangeAt Go.RowKit Go.Deep

theorem bulk_mem {H : Type} {d : DataW H} {l : List (DataW H)} (h : d ∈ l) : Rows.uptoBulk d ≤ Rows.uptoBulkAll l := by
  induction l with
  | nil => cases h
  | cons x r ih =>
    simp only [Rows.uptoBulkAll]
    cases List.mem_cons.1 h with
    | inl e => subst e; omega
    | inr e => have := ih e; omega
theorem bulk_one {H : Type} (d : DataW H) : 1 ≤ Rows.uptoBulk d := by
  cases d with
  | lit l => cases l <;> simp [Rows.uptoBulk]
  | nil => simp [Rows.uptoBulk]
  | ptr d => simp [Rows.uptoBulk]
  | slice elems spare => simp [Rows.uptoBulk]
  | agg parts => simp [Rows.uptoBulk]
  | iface t d => simp [Rows.uptoBulk]
  | map entries => simp [Rows.uptoBulk]
  | held h => simp [Rows.uptoBulk]
theorem bulk_length {H : Type} (l : List (DataW H)) : l.length ≤ Rows.uptoBulkAll l := by
  induction l with
  | nil => simp [Rows.uptoBulkAll]
  | cons x r ih => have := bulk_one x; simp only [Rows.uptoBulkAll, List.length_cons]; omega
theorem part_bulk {H : Type} {l : List (DataW H × List MemPlace)} {i : Nat} {y : DataW H × List MemPlace} (h : l[i]? = some y) {n : Nat} (hn : Rows.uptoBulk (DataW.agg (l.map (·.1))) ≤ n) : Rows.uptoBulk y.1 ≤ n := by
  have h1 : y.1 ∈ l.map (·.1) := List.mem_map.2 ⟨y, List.mem_of_getElem? h, rfl⟩
  have h2 := bulk_mem h1
  simp only [Rows.uptoBulk] at hn
  omega
/-- The cells of the blocks that are there. -/
def sW (W : World) : Sb := ⟨fun b _ => b < W.heap.size, fun b _ => b < W.heap.size, fun _ _ h => h⟩
def I64 (x : Int) : Prop := -9223372036854775808 ≤ x ∧ x ≤ 9223372036854775807
theorem i64_wf {x : Int} (h : (Lit.int .i64 x).wf = true) : I64 x := by
  simp [Lit.wf] at h
  have h1 : IntKind.i64.min = -9223372036854775808 := by decide
  have h2 : IntKind.i64.max = 9223372036854775807 := by decide
  unfold I64
  omega
theorem u32_wf {x : Int} (h : (Lit.int .u32 x).wf = true) : 0 ≤ x ∧ x < 4294967296 := by
  simp [Lit.wf] at h
  have h1 : IntKind.u32.min = 0 := by decide
  have h2 : IntKind.u32.max = 4294967295 := by decide
  omega
/-- What is read at a type is such data. -/
def Opn {H : Type} (enc : TypeId × Value → H) (P : Program) (W : World) (t : TypeId) {α : Type} (f : α → List D) (Q : α → Nat → Prop) : Prop :=
  ∀ (fuel : Nat) (cs : List Value) (d : DataW H) (ps : List MemPlace), cs.length = P.cellsOf t → DataW.trod enc P W 0 (fun _ => true) true fuel t cs = some (d, ps) →
    ∃ x, AllV W (sW W) (D.pvs (f x)) cs ∧ (∀ c ∈ cs, c.oneCell' = true) ∧ ∀ n, Rows.uptoBulk d ≤ n → Q x n
section
variable {H : Type} {enc : TypeId × Value → H} {P : Program} {W : World}
theorem one_mem {c : Value} (h : c.oneCell' = true) : ∀ x ∈ [c], x.oneCell' = true := fun x hx => by rw [List.mem_singleton] at hx; rw [hx]; exact h
theorem Opn.int {t : TypeId} (ht : P.underlying t = some (.int .i64)) : Opn enc P W t iD (fun x _ => I64 x) := by
  intro fuel cs d ps _ h
  obtain ⟨k, rfl, _, wf⟩ := DataW.trod_int ht h
  exact ⟨k, ⟨rfl, trivial⟩, one_mem rfl, fun _ _ => i64_wf wf⟩
theorem Opn.u32 {t : TypeId} (ht : P.underlying t = some (.int .u32)) : Opn enc P W t uD (fun x _ => x < 4294967296) := by
  intro fuel cs d ps _ h
  obtain ⟨k, rfl, _, wf⟩ := DataW.trod_int ht h
  have h1 := u32_wf wf
  refine ⟨k.toNat, ⟨?_, trivial⟩, one_mem rfl, fun _ _ => by omega⟩
  show Value.int .u32 k = .int .u32 (k.toNat : Nat)
  rw [Int.toNat_of_nonneg h1.1]
theorem Opn.bool {t : TypeId} (ht : P.underlying t = some .bool) : Opn enc P W t (fun b : Bool => [.v (.bool b)]) (fun _ _ => True) := by
  intro fuel cs d ps _ h
  obtain ⟨k, rfl, _⟩ := DataW.trod_bool ht h
  exact ⟨k, ⟨rfl, trivial⟩, one_mem rfl, fun _ _ => trivial⟩
theorem Opn.str {t : TypeId} (ht : P.underlying t = some .string) : Opn enc P W t sD (fun s n => s.size ≤ n) := by
  intro fuel cs d ps _ h
  obtain ⟨k, rfl, hx, _⟩ := DataW.trod_string ht h
  refine ⟨k, ⟨rfl, trivial⟩, one_mem rfl, fun n hn => ?_⟩
  simp only [Prod.mk.injEq] at hx
  rw [hx.1] at hn
  simp only [Rows.uptoBulk] at hn
  have e : k.data.toList.length = k.size := by rw [Array.length_toList]; rfl
  omega
theorem Opn.sl {α : Type} {f : α → List D} {Q : α → Nat → Prop} {t e : TypeId} {sz : Nat} (e0 : α) (ht : P.underlying t = some (.slice e)) (hc : P.cellsOf e = sz) (hz : 0 < sz) (he : Opn enc P W e f Q) :
    Opn enc P W t (fun l => [.sl false sz l f e0]) (fun l n => l.length ≤ n ∧ ∀ x ∈ l, Q x n) := by
  intro fuel cs d ps _ h
  rcases open_slice ht h with ⟨rfl, hx⟩ | ⟨a, len, cap, m, n, D', Pl, rfl, _, hl, hm, hmm, hx, hel⟩
  · exact ⟨[], ⟨PV.sl_nil, trivial⟩, one_mem rfl, fun _ _ => ⟨Nat.zero_le _, fun x hx => by cases hx⟩⟩
  · simp only [if_true] at hmm
    subst hmm
    have hq : ∀ i, i < len → ∃ x : α, ∃ cs', W.cells? 0 (a.add (i * sz)) sz = some cs' ∧ AllV W (sW W) (D.pvs (f x)) cs' ∧ (∀ c ∈ cs', c.oneCell' = true) ∧ ∀ n, Rows.uptoBulk (D' i) ≤ n → Q x n := fun i hi => by
      obtain ⟨cs', h1, h2⟩ := hel i (by omega)
      rw [hc] at h1
      obtain ⟨_, hlen, _⟩ := World.cells?_some h1
      obtain ⟨x, hx1, hx2, hx3⟩ := he n cs' (D' i) (Pl i) (by omega) h2
      exact ⟨x, cs', h1, hx1, hx2, hx3⟩
    obtain ⟨g, hg⟩ : ∃ g : Nat → α, ∀ i, i < len → ∃ cs', W.cells? 0 (a.add (i * sz)) sz = some cs' ∧ AllV W (sW W) (D.pvs (f (g i))) cs' ∧ (∀ c ∈ cs', c.oneCell' = true) ∧ ∀ n, Rows.uptoBulk (D' i) ≤ n → Q (g i) n :=
      ⟨fun i => if h : i < len then Classical.choose (hq i h) else e0, fun i hi => by simp only [dif_pos hi]; exact Classical.choose_spec (hq i hi)⟩
    have hrl : (((List.range len).map g).map fun a => D.pvs (f a)).length = len := by simp
    refine ⟨(List.range len).map g, ⟨⟨some a, m, ?_, ?_, ?_, ?_, ?_⟩, trivial⟩, one_mem rfl, fun n hn => ?_⟩
    · show Value.slice (some a) len m = Value.slice (some a) (((List.range len).map g).map fun a => D.pvs (f a)).length m
      rw [hrl]
    · show (((List.range len).map g).map fun a => D.pvs (f a)).length ≤ m
      rw [hrl]; exact hl
    · have : maxLen = 9223372036854775807 := by decide
      omega
    · intro row hrow
      have hrow : row ∈ ((List.range len).map g).map fun a => D.pvs (f a) := hrow
      rw [List.map_map] at hrow
      obtain ⟨i, hi, rfl⟩ := List.mem_map.1 hrow
      obtain ⟨cs', h1, h2, -⟩ := hg i (List.mem_range.1 hi)
      have h3 := h2.length
      obtain ⟨_, h4, _⟩ := World.cells?_some h1
      show (D.pvs (f (g i))).length = sz
      omega
    · intro i row hrow
      have hrow : (((List.range len).map g).map fun a => D.pvs (f a))[i]? = some row := hrow
      rw [List.map_map, List.getElem?_map] at hrow
      obtain ⟨j, hj, rfl⟩ := Option.map_eq_some_iff.1 hrow
      have hi : i < len := by have := (List.getElem?_eq_some_iff.1 hj).1; simpa using this
      rw [List.getElem?_range hi] at hj
      cases hj
      obtain ⟨cs', h1, h2, h3, -⟩ := hg i hi
      obtain ⟨_, h4, h5⟩ := World.cells?_some h1
      obtain ⟨b, off, spot⟩ := a
      cases spot with
      | some sp =>
        obtain ⟨cs0, k1, -⟩ := hg 0 (by omega)
        obtain ⟨_, k4, k5⟩ := World.cells?_some k1
        have h6 := k5 0 hz
        rw [List.getElem?_eq_getElem (by omega)] at h6
        have := World.cell?_spot h6
        simp [Addr.add] at this
      | none =>
        refine ⟨b, off, rfl, fun j d hd => ?_⟩
        obtain ⟨v, hv, hp⟩ := h2.get hd
        have hj : j < cs'.length := (List.getElem?_eq_some_iff.1 hv).1
        have h6 := h5 j (by omega)
        rw [hv] at h6
        have h7 : W.cell? ⟨b, off + i * sz + j, none⟩ = some v := by rw [add_plain, add_plain] at h6; exact h6
        exact ⟨v, h7, (World.block_lt_of_cell? _ _ h7 : b < W.heap.size), hp, h3 v (List.mem_of_getElem? hv)⟩
    · simp only [Prod.mk.injEq] at hx
      rw [hx.1] at hn
      simp only [Rows.uptoBulk] at hn
      have h1 := bulk_length ((List.range len).map D')
      simp only [List.length_map, List.length_range] at h1
      refine ⟨by simp; omega, fun x hx => ?_⟩
      obtain ⟨i, hi, rfl⟩ := List.mem_map.1 hx
      obtain ⟨cs', -, -, -, h4⟩ := hg i (List.mem_range.1 hi)
      exact h4 n (by have := bulk_mem (d := D' i) (l := (List.range len).map D') (List.mem_map.2 ⟨i, hi, rfl⟩); omega)
end
theorem list5 {α : Type} {l : List α} (h : l.length = 5) : ∃ c0 c1 c2 c3 c4, l = [c0, c1, c2, c3, c4] := by
  match l, h with
  | [c0, c1, c2, c3, c4], _ => exact ⟨c0, c1, c2, c3, c4, rfl⟩
theorem list7 {α : Type} {l : List α} (h : l.length = 7) : ∃ c0 c1 c2 c3 c4 c5 c6, l = [c0, c1, c2, c3, c4, c5, c6] := by
  match l, h with
  | [c0, c1, c2, c3, c4, c5, c6], _ => exact ⟨c0, c1, c2, c3, c4, c5, c6, rfl⟩
theorem list10 {α : Type} {l : List α} (h : l.length = 10) : ∃ c0 c1 c2 c3 c4 c5 c6 c7 c8 c9, l = [c0, c1, c2, c3, c4, c5, c6, c7, c8, c9] := by
  match l, h with
  | [c0, c1, c2, c3, c4, c5, c6, c7, c8, c9], _ => exact ⟨c0, c1, c2, c3, c4, c5, c6, c7, c8, c9, rfl⟩
theorem allV_of1 {W : World} {s : Sb} {d : D} {c : Value} (h : AllV W s (D.pvs [d]) [c]) : d.pv.p W s c := h.1
section
variable {H : Type} {enc : TypeId × Value → H} {W : World}
def intD (p : Bool × List Nat) : List D := [.v (.bool p.1), usD p.2]
set_option maxRecDepth 100000 in
theorem Opn.bigI : Opn enc Tryz.prog W 27 intD (fun p n => p.2.length ≤ n ∧ ∀ x ∈ p.2, x < 4294967296) := by
  intro fuel cs d ps hl h
  have e4 : Tryz.prog.cellsOf 4 = 1 := by kernel_rfl
  have e22 : Tryz.prog.cellsOf 25 = 1 := by kernel_rfl
  have eI : Tryz.prog.cellsOf 27 = 2 := by kernel_rfl
  rw [eI] at hl
  match cs, hl with
  | [c0, c1], _ =>
    obtain ⟨xs, n1, _, hx, _, hlen, hg⟩ := DataW.trod_struct Tryz.underlying27 h
    match xs, hlen with
    | [y0, y1], _ =>
      have g0 : DataW.trod enc Tryz.prog W 0 (fun _ => true) true n1 4 (([c0, c1].drop 0).take (Tryz.prog.cellsOf 4)) = some y0 := hg 0 _ rfl
      rw [e4] at g0
      replace g0 : DataW.trod enc Tryz.prog W 0 (fun _ => true) true n1 4 [c0] = some y0 := g0
      have g1 : DataW.trod enc Tryz.prog W 0 (fun _ => true) true n1 25 (([c0, c1].drop 1).take (Tryz.prog.cellsOf 25)) = some y1 := hg 1 _ rfl
      rw [e22] at g1
      replace g1 : DataW.trod enc Tryz.prog W 0 (fun _ => true) true n1 25 [c1] = some y1 := g1
      obtain ⟨x0, a0, o0, q0⟩ := Opn.bool Tryz.underlying4 _ _ y0.1 y0.2 (by rw [e4]; rfl) g0
      obtain ⟨x1, a1, o1, q1⟩ := Opn.sl 0 Tryz.underlying25 (sz := 1) (by kernel_rfl) (by decide) (Opn.u32 Tryz.underlying72) _ _ y1.1 y1.2 (by rw [e22]; rfl) g1
      simp only [Prod.mk.injEq] at hx
      refine ⟨(x0, x1), ⟨allV_of1 a0, allV_of1 a1, trivial⟩, fun c hc => ?_, fun n hn => ?_⟩
      · simp only [List.mem_cons, List.not_mem_nil, or_false] at hc
        rcases hc with rfl | rfl
        · exact o0 _ (by simp)
        · exact o1 _ (by simp)
      · rw [hx.1] at hn
        exact q1 n (part_bulk (i := 1) (y := y1) rfl hn)
set_option maxRecDepth 100000 in
theorem Opn.val : Opn enc Tryz.prog W 29 vlD (fun v n => n ≤ 1048576 → VlIn v) := by
  intro fuel cs d ps hl h
  have e3 : Tryz.prog.cellsOf 3 = 1 := by kernel_rfl
  have e9 : Tryz.prog.cellsOf 9 = 1 := by kernel_rfl
  have e24 : Tryz.prog.cellsOf 27 = 2 := by kernel_rfl
  have eV : Tryz.prog.cellsOf 29 = 7 := by kernel_rfl
  rw [eV] at hl
  obtain ⟨c0, c1, c2, c3, c4, c5, c6, rfl⟩ := list7 hl
  obtain ⟨xs, n1, _, hx, _, hlen, hg⟩ := DataW.trod_struct Tryz.underlying29 h
  obtain ⟨y0, y1, y2, y3, y4, rfl⟩ := list5 hlen
  have g0 : DataW.trod enc Tryz.prog W 0 (fun _ => true) true n1 3 (([c0, c1, c2, c3, c4, c5, c6].drop 0).take (Tryz.prog.cellsOf 3)) = some y0 := hg 0 _ rfl
  rw [e3] at g0
  replace g0 : DataW.trod enc Tryz.prog W 0 (fun _ => true) true n1 3 [c0] = some y0 := g0
  have g1 : DataW.trod enc Tryz.prog W 0 (fun _ => true) true n1 27 (([c0, c1, c2, c3, c4, c5, c6].drop 1).take (Tryz.prog.cellsOf 27)) = some y1 := hg 1 _ rfl
  rw [e24] at g1
  replace g1 : DataW.trod enc Tryz.prog W 0 (fun _ => true) true n1 27 [c1, c2] = some y1 := g1
  have g2 : DataW.trod enc Tryz.prog W 0 (fun _ => true) true n1 27 (([c0, c1, c2, c3, c4, c5, c6].drop 3).take (Tryz.prog.cellsOf 27)) = some y2 := hg 2 _ rfl
  rw [e24] at g2
  replace g2 : DataW.trod enc Tryz.prog W 0 (fun _ => true) true n1 27 [c3, c4] = some y2 := g2
  have g3 : DataW.trod enc Tryz.prog W 0 (fun _ => true) true n1 9 (([c0, c1, c2, c3, c4, c5, c6].drop 5).take (Tryz.prog.cellsOf 9)) = some y3 := hg 3 _ rfl
  rw [e9] at g3
  replace g3 : DataW.trod enc Tryz.prog W 0 (fun _ => true) true n1 9 [c5] = some y3 := g3
  have g4 : DataW.trod enc Tryz.prog W 0 (fun _ => true) true n1 3 (([c0, c1, c2, c3, c4, c5, c6].drop 6).take (Tryz.prog.cellsOf 3)) = some y4 := hg 4 _ rfl
  rw [e3] at g4
  replace g4 : DataW.trod enc Tryz.prog W 0 (fun _ => true) true n1 3 [c6] = some y4 := g4
  obtain ⟨x0, a0, o0, q0⟩ := Opn.int Tryz.underlying3 _ _ y0.1 y0.2 (by rw [e3]; rfl) g0
  obtain ⟨x1, a1, o1, q1⟩ := Opn.bigI _ _ y1.1 y1.2 (by rw [e24]; rfl) g1
  obtain ⟨x2, a2, o2, q2⟩ := Opn.bigI _ _ y2.1 y2.2 (by rw [e24]; rfl) g2
  obtain ⟨x3, a3, o3, q3⟩ := Opn.str Tryz.underlying9 _ _ y3.1 y3.2 (by rw [e9]; rfl) g3
  obtain ⟨x4, a4, o4, q4⟩ := Opn.int Tryz.underlying3 _ _ y4.1 y4.2 (by rw [e3]; rfl) g4
  simp only [Prod.mk.injEq] at hx
  refine ⟨⟨x0, x1.1, x1.2, x2.1, x2.2, x3, x4⟩, ⟨allV_of1 a0, a1.1, a1.2.1, a2.1, a2.2.1, allV_of1 a3, allV_of1 a4, trivial⟩, fun c hc => ?_, fun n hn hn2 => ?_⟩
  · simp only [List.mem_cons, List.not_mem_nil, or_false] at hc
    rcases hc with rfl | rfl | rfl | rfl | rfl | rfl | rfl
    · exact o0 _ (by simp)
    · exact o1 _ (by simp)
    · exact o1 _ (by simp)
    · exact o2 _ (by simp)
    · exact o2 _ (by simp)
    · exact o3 _ (by simp)
    · exact o4 _ (by simp)
  · rw [hx.1] at hn
    have b0 := q0 n (part_bulk (i := 0) (y := y0) rfl hn)
    have b1 := q1 n (part_bulk (i := 1) (y := y1) rfl hn)
    have b2 := q2 n (part_bulk (i := 2) (y := y2) rfl hn)
    have b3 := q3 n (part_bulk (i := 3) (y := y3) rfl hn)
    have b4 := q4 n (part_bulk (i := 4) (y := y4) rfl hn)
    exact ⟨b0.1, b0.2, b4.1, b4.2, b1.2, b2.2, by show x1.2.length ≤ _; omega, by show x2.2.length ≤ _; omega, by show x3.size ≤ _; omega⟩
set_option maxRecDepth 100000 in
theorem Opn.obj : Opn enc Tryz.prog W 44 obD (fun o n => n ≤ 1048576 → ObIn o) := by
  intro fuel cs d ps hl h
  have e3 : Tryz.prog.cellsOf 3 = 1 := by kernel_rfl
  have e9 : Tryz.prog.cellsOf 9 = 1 := by kernel_rfl
  have eI : Tryz.prog.cellsOf 42 = 1 := by kernel_rfl
  have eS : Tryz.prog.cellsOf 38 = 1 := by kernel_rfl
  have eV : Tryz.prog.cellsOf 32 = 1 := by kernel_rfl
  have eO : Tryz.prog.cellsOf 44 = 10 := by kernel_rfl
  rw [eO] at hl
  obtain ⟨c0, c1, c2, c3, c4, c5, c6, c7, c8, c9, rfl⟩ := list10 hl
  obtain ⟨xs, n1, _, hx, _, hlen, hg⟩ := DataW.trod_struct Tryz.underlying44 h
  obtain ⟨y0, y1, y2, y3, y4, y5, y6, y7, y8, y9, rfl⟩ := list10 hlen
  have g0 : DataW.trod enc Tryz.prog W 0 (fun _ => true) true n1 3 (([c0, c1, c2, c3, c4, c5, c6, c7, c8, c9].drop 0).take (Tryz.prog.cellsOf 3)) = some y0 := hg 0 _ rfl
  rw [e3] at g0
  replace g0 : DataW.trod enc Tryz.prog W 0 (fun _ => true) true n1 3 [c0] = some y0 := g0
  have g1 : DataW.trod enc Tryz.prog W 0 (fun _ => true) true n1 9 (([c0, c1, c2, c3, c4, c5, c6, c7, c8, c9].drop 1).take (Tryz.prog.cellsOf 9)) = some y1 := hg 1 _ rfl
  rw [e9] at g1
  replace g1 : DataW.trod enc Tryz.prog W 0 (fun _ => true) true n1 9 [c1] = some y1 := g1
  have g2 : DataW.trod enc Tryz.prog W 0 (fun _ => true) true n1 3 (([c0, c1, c2, c3, c4, c5, c6, c7, c8, c9].drop 2).take (Tryz.prog.cellsOf 3)) = some y2 := hg 2 _ rfl
  rw [e3] at g2
  replace g2 : DataW.trod enc Tryz.prog W 0 (fun _ => true) true n1 3 [c2] = some y2 := g2
  have g3 : DataW.trod enc Tryz.prog W 0 (fun _ => true) true n1 42 (([c0, c1, c2, c3, c4, c5, c6, c7, c8, c9].drop 3).take (Tryz.prog.cellsOf 42)) = some y3 := hg 3 _ rfl
  rw [eI] at g3
  replace g3 : DataW.trod enc Tryz.prog W 0 (fun _ => true) true n1 42 [c3] = some y3 := g3
  have g4 : DataW.trod enc Tryz.prog W 0 (fun _ => true) true n1 42 (([c0, c1, c2, c3, c4, c5, c6, c7, c8, c9].drop 4).take (Tryz.prog.cellsOf 42)) = some y4 := hg 4 _ rfl
  rw [eI] at g4
  replace g4 : DataW.trod enc Tryz.prog W 0 (fun _ => true) true n1 42 [c4] = some y4 := g4
  have g5 : DataW.trod enc Tryz.prog W 0 (fun _ => true) true n1 38 (([c0, c1, c2, c3, c4, c5, c6, c7, c8, c9].drop 5).take (Tryz.prog.cellsOf 38)) = some y5 := hg 5 _ rfl
  rw [eS] at g5
  replace g5 : DataW.trod enc Tryz.prog W 0 (fun _ => true) true n1 38 [c5] = some y5 := g5
  have g6 : DataW.trod enc Tryz.prog W 0 (fun _ => true) true n1 32 (([c0, c1, c2, c3, c4, c5, c6, c7, c8, c9].drop 6).take (Tryz.prog.cellsOf 32)) = some y6 := hg 6 _ rfl
  rw [eV] at g6
  replace g6 : DataW.trod enc Tryz.prog W 0 (fun _ => true) true n1 32 [c6] = some y6 := g6
  have g7 : DataW.trod enc Tryz.prog W 0 (fun _ => true) true n1 32 (([c0, c1, c2, c3, c4, c5, c6, c7, c8, c9].drop 7).take (Tryz.prog.cellsOf 32)) = some y7 := hg 7 _ rfl
  rw [eV] at g7
  replace g7 : DataW.trod enc Tryz.prog W 0 (fun _ => true) true n1 32 [c7] = some y7 := g7
  have g8 : DataW.trod enc Tryz.prog W 0 (fun _ => true) true n1 3 (([c0, c1, c2, c3, c4, c5, c6, c7, c8, c9].drop 8).take (Tryz.prog.cellsOf 3)) = some y8 := hg 8 _ rfl
  rw [e3] at g8
  replace g8 : DataW.trod enc Tryz.prog W 0 (fun _ => true) true n1 3 [c8] = some y8 := g8
  have g9 : DataW.trod enc Tryz.prog W 0 (fun _ => true) true n1 3 (([c0, c1, c2, c3, c4, c5, c6, c7, c8, c9].drop 9).take (Tryz.prog.cellsOf 3)) = some y9 := hg 9 _ rfl
  rw [e3] at g9
  replace g9 : DataW.trod enc Tryz.prog W 0 (fun _ => true) true n1 3 [c9] = some y9 := g9
  obtain ⟨x0, a0, o0, q0⟩ := Opn.int Tryz.underlying3 _ _ y0.1 y0.2 (by rw [e3]; rfl) g0
  obtain ⟨x1, a1, o1, q1⟩ := Opn.str Tryz.underlying9 _ _ y1.1 y1.2 (by rw [e9]; rfl) g1
  obtain ⟨x2, a2, o2, q2⟩ := Opn.int Tryz.underlying3 _ _ y2.1 y2.2 (by rw [e3]; rfl) g2
  obtain ⟨x3, a3, o3, q3⟩ := Opn.sl 0 Tryz.underlying42 (sz := 1) (by kernel_rfl) (by decide) (Opn.int Tryz.underlying3) _ _ y3.1 y3.2 (by rw [eI]; rfl) g3
  obtain ⟨x4, a4, o4, q4⟩ := Opn.sl 0 Tryz.underlying42 (sz := 1) (by kernel_rfl) (by decide) (Opn.int Tryz.underlying3) _ _ y4.1 y4.2 (by rw [eI]; rfl) g4
  obtain ⟨x5, a5, o5, q5⟩ := Opn.sl ByteArray.empty Tryz.underlying38 (sz := 1) (by kernel_rfl) (by decide) (Opn.str Tryz.underlying9) _ _ y5.1 y5.2 (by rw [eS]; rfl) g5
  obtain ⟨x6, a6, o6, q6⟩ := Opn.sl vl0 Tryz.underlying32 (sz := 7) (by kernel_rfl) (by decide) Opn.val _ _ y6.1 y6.2 (by rw [eV]; rfl) g6
  obtain ⟨x7, a7, o7, q7⟩ := Opn.sl vl0 Tryz.underlying32 (sz := 7) (by kernel_rfl) (by decide) Opn.val _ _ y7.1 y7.2 (by rw [eV]; rfl) g7
  obtain ⟨x8, a8, o8, q8⟩ := Opn.int Tryz.underlying3 _ _ y8.1 y8.2 (by rw [e3]; rfl) g8
  obtain ⟨x9, a9, o9, q9⟩ := Opn.int Tryz.underlying3 _ _ y9.1 y9.2 (by rw [e3]; rfl) g9
  simp only [Prod.mk.injEq] at hx
  refine ⟨⟨x0, x1, x2, x3, x4, x5, x6, x7, x8, x9⟩, ⟨allV_of1 a0, allV_of1 a1, allV_of1 a2, allV_of1 a3, allV_of1 a4, allV_of1 a5, allV_of1 a6, allV_of1 a7, allV_of1 a8, allV_of1 a9, trivial⟩, fun c hc => ?_, fun n hn hn2 => ?_⟩
  · simp only [List.mem_cons, List.not_mem_nil, or_false] at hc
    rcases hc with rfl | rfl | rfl | rfl | rfl | rfl | rfl | rfl | rfl | rfl
    · exact o0 _ (by simp)
    · exact o1 _ (by simp)
    · exact o2 _ (by simp)
    · exact o3 _ (by simp)
    · exact o4 _ (by simp)
    · exact o5 _ (by simp)
    · exact o6 _ (by simp)
    · exact o7 _ (by simp)
    · exact o8 _ (by simp)
    · exact o9 _ (by simp)
  · rw [hx.1] at hn
    have b0 := q0 n (part_bulk (i := 0) (y := y0) rfl hn)
    have b1 := q1 n (part_bulk (i := 1) (y := y1) rfl hn)
    have b2 := q2 n (part_bulk (i := 2) (y := y2) rfl hn)
    have b3 := q3 n (part_bulk (i := 3) (y := y3) rfl hn)
    have b4 := q4 n (part_bulk (i := 4) (y := y4) rfl hn)
    have b5 := q5 n (part_bulk (i := 5) (y := y5) rfl hn)
    have b6 := q6 n (part_bulk (i := 6) (y := y6) rfl hn)
    have b7 := q7 n (part_bulk (i := 7) (y := y7) rfl hn)
    have b8 := q8 n (part_bulk (i := 8) (y := y8) rfl hn)
    have b9 := q9 n (part_bulk (i := 9) (y := y9) rfl hn)
    exact ⟨b0, b2, b8, b9, by show x1.size ≤ _; omega, by show x3.length ≤ _; omega, by show x4.length ≤ _; omega, by show x5.length ≤ _; omega, by show x6.length ≤ _; omega, by show x7.length ≤ _; omega,
      fun s hs => by have := b5.2 s hs; omega, fun v hv => b6.2 v hv hn2, fun v hv => b7.2 v hv hn2⟩
def hpL (h : List Ob) : List D := [.sl false 10 h obD ob0]
set_option maxRecDepth 100000 in
theorem Opn.heap : Opn enc Tryz.prog W 24 hpL (fun h n => n ≤ 1048576 → HpIn h) := by
  intro fuel cs d ps hl h
  have eH : Tryz.prog.cellsOf 24 = 1 := by kernel_rfl
  have eO : Tryz.prog.cellsOf 22 = 1 := by kernel_rfl
  rw [eH] at hl
  match cs, hl with
  | [c0], _ =>
    obtain ⟨xs, n1, _, hx, _, hlen, hg⟩ := DataW.trod_struct Tryz.underlying24 h
    match xs, hlen with
    | [y0], _ =>
      have g0 : DataW.trod enc Tryz.prog W 0 (fun _ => true) true n1 22 (([c0].drop 0).take (Tryz.prog.cellsOf 22)) = some y0 := hg 0 _ rfl
      rw [eO] at g0
      replace g0 : DataW.trod enc Tryz.prog W 0 (fun _ => true) true n1 22 [c0] = some y0 := g0
      obtain ⟨x0, a0, o0, q0⟩ := Opn.sl ob0 Tryz.underlying22 (sz := 10) (by kernel_rfl) (by decide) Opn.obj _ _ y0.1 y0.2 (by rw [eO]; rfl) g0
      simp only [Prod.mk.injEq] at hx
      refine ⟨x0, a0, o0, fun n hn hn2 => ?_⟩
      rw [hx.1] at hn
      have b0 := q0 n (part_bulk (i := 0) (y := y0) rfl hn)
      exact ⟨fun o ho => b0.2 o ho hn2, by omega⟩
/-- An argument that is a struct. -/
theorem Opn.agg {P : Program} {α : Type} {f : α → List D} {Q : α → Nat → Prop} {t : TypeId} {fs : Array Field} {base : Nat} (ho : Opn enc P W t f Q) (ht : P.underlying t = some (.struct fs)) {v : Value} {d : DataW H} {ps : List MemPlace}
    (hv : Value.okWide P W .any base t v) (h : DataW.Trod enc P W 0 (fun _ => true) true t v d ps) :
    ∃ x, (D.agg (f x)).pv.p W (sW W) v ∧ ∀ n, Rows.uptoBulk d ≤ n → Q x n := by
  obtain ⟨cs, rfl, hsz⟩ := okWide_struct ht hv
  obtain ⟨l⟩ := cs
  obtain ⟨fuel, hf⟩ := h
  obtain ⟨x, h1, -, h3⟩ := ho fuel l d ps hsz hf
  exact ⟨x, ⟨l, rfl, h1⟩, h3⟩
end
end Go.Proofs.YtonogeiopicibaaGreatDoor

/- Arguments opened: a reading of a value gives a list. -/
namespace Go.Proofs.YtonogeiopicibaaGreatDoor
open Go.ChangeShapes Go.WideShapes Go.ChangeAt Go.RowKit Go.Deep




theorem fits_of_wf {x : Int} (h : (Lit.int .i64 x).wf = true) : Fits x := by
  simp [Lit.wf] at h
  have h1 : IntKind.i64.min = -9223372036854775808 := by decide
  have h2 : IntKind.i64.max = 9223372036854775807 := by decide
  unfold Fits
  omega

theorem add_at (b off i : Nat) : (⟨b, off, none⟩ : Addr).add i = ⟨b, off + i, none⟩ := by
  unfold Addr.add; split <;> simp_all

theorem spot_none {W : World} {x : Addr} {v : Value} (h : W.cell? (x.add 0) = some v) : x.spot = none := by
  have := World.cell?_spot h
  simpa [Addr.add] using this

theorem maxLen_eq : maxLen = 9223372036854775807 := by decide

theorem Ints_open {H : Type} {enc : TypeId × Value → H} {P : Program} {W : World} {base : Nat} {t e : TypeId} {v : Value} {d : DataW H} {ps : List MemPlace}
    (ht : P.underlying t = some (.slice e)) (he : P.underlying e = some (.int .i64)) (hc : P.cellsOf e = 1)
    (hv : Value.okWide P W .any base t v) (h : DataW.Trod enc P W 0 (fun _ => true) true t v d ps) :
    ∃ l, Ints W v l ∧ ∀ x ∈ l, Fits x := by
  obtain ⟨a, len, cap, rfl⟩ := okWide_slice ht hv
  obtain ⟨fuel, hf⟩ := h
  rcases open_ints ht he hc hf with ⟨hcs, _⟩ | ⟨x, l, c, zs, hcs, _, hl, hm, hz, _, hcell, hwz⟩
  · simp [Value.cells] at hcs
    obtain ⟨rfl, rfl, rfl⟩ := hcs
    exact ⟨[], RowOf.nil _ _, fun x h => by simp at h⟩
  · simp [Value.cells] at hcs
    obtain ⟨rfl, rfl, rfl⟩ := hcs
    have hz' : zs.length = cap := by simpa using hz
    have hlen : (zs.take len).length = len := by simp; omega
    rw [maxLen_eq] at hm
    refine ⟨zs.take len, ⟨some x, cap, by rw [hlen], by omega, by omega, fun i h => ?_⟩, fun y hy => fits_of_wf (hwz y (List.mem_of_mem_take hy))⟩
    rw [hlen] at h
    have h1 := hcell i (by omega)
    obtain ⟨b, off, spot⟩ := x
    have hspot : spot = none := spot_none (hcell 0 (by omega))
    subst hspot
    refine ⟨b, off, rfl, ?_⟩
    have hi : i < zs.length := by omega
    simpa [add_at, List.getD, hi] using h1

theorem IntRows_open {H : Type} {enc : TypeId × Value → H} {P : Program} {W : World} {base : Nat} {t e q : TypeId} {v : Value} {d : DataW H} {ps : List MemPlace}
    (ht : P.underlying t = some (.slice e)) (he : P.underlying e = some (.slice q)) (hq : P.underlying q = some (.int .i64)) (hc : P.cellsOf e = 1) (hcq : P.cellsOf q = 1)
    (hv : Value.okWide P W .any base t v) (h : DataW.Trod enc P W 0 (fun _ => true) true t v d ps) :
    ∃ B, IntRows W v B ∧ ∀ y ∈ B, ∀ x ∈ y, Fits x := by
  obtain ⟨a, len, cap, rfl⟩ := okWide_slice ht hv
  obtain ⟨fuel, hf⟩ := h
  rcases open_int_rows ht he hq hc hcq hf with ⟨hcs, _⟩ | ⟨x, l, c, A, L, C, Z, hcs, _, hl, hm, _, hrow⟩
  · simp [Value.cells] at hcs
    obtain ⟨rfl, rfl, rfl⟩ := hcs
    exact ⟨[], ⟨[], rfl, RowOf.nil _ _, fun i h => by simp at h⟩, fun x h => by simp at h⟩
  · simp [Value.cells] at hcs
    obtain ⟨rfl, rfl, rfl⟩ := hcs
    rw [maxLen_eq] at hm
    refine ⟨(List.range len).map fun r => (Z r).take (L r), ⟨(List.range len).map fun r => .slice (A r) (L r) (C r), by simp, ⟨some x, cap, by simp, by simpa using hl, hm, fun i hi => ?_⟩, fun i hi => ?_⟩, fun y hy z hz => ?_⟩
    · simp at hi
      have h1 := (hrow i (by omega)).1
      obtain ⟨b, off, spot⟩ := x
      have hspot : spot = none := spot_none (hrow 0 (by omega)).1
      subst hspot
      exact ⟨b, off, rfl, by simpa [add_at] using h1⟩
    · simp at hi
      obtain ⟨_, hLC, hCm, hZ, _, hnone, hsome⟩ := hrow i (by omega)
      rw [maxLen_eq] at hCm
      have hlen : ((Z i).take (L i)).length = L i := by simp; omega
      simp only [List.getElem_map, List.getElem_range]
      refine ⟨A i, C i, by rw [hlen], by rw [hlen]; exact hLC, hCm, fun j hj => ?_⟩
      rw [hlen] at hj
      cases hAi : A i with
      | none => have := hnone hAi; omega
      | some y =>
        have h2 := (hsome y hAi).2
        obtain ⟨b, off, spot⟩ := y
        have hspot : spot = none := spot_none (h2 0 (by omega))
        subst hspot
        have hjz : j < (Z i).length := by omega
        exact ⟨b, off, rfl, by simpa [add_at, List.getD, hjz] using h2 j (by omega)⟩
    · simp at hy
      obtain ⟨r, hr, rfl⟩ := hy
      exact fits_of_wf ((hrow r (by omega)).2.2.2.2.1 z (List.mem_of_mem_take hz))

theorem Int_open {H : Type} {enc : TypeId × Value → H} {P : Program} {W : World} {base : Nat} {t : TypeId} {v : Value} {d : DataW H} {ps : List MemPlace}
    (ht : P.underlying t = some (.int .i64)) (hv : Value.okWide P W .any base t v) (h : DataW.Trod enc P W 0 (fun _ => true) true t v d ps) :
    ∃ x, v = .int .i64 x ∧ Fits x := by
  obtain ⟨x, rfl, _, _, hw⟩ := open_int ht hv h
  exact ⟨x, rfl, fits_of_wf hw⟩
end Go.Proofs.YtonogeiopicibaaGreatDoor

/- From a walk that says 'the call returns true and writes nothing that was there' to a given row of the kind 'it returns true and leaves its arguments alone'. For any number of parameters. -/
namespace Go.Proofs.YtonogeiopicibaaGreatDoor
open Go.ChangeShapes Go.WideShapes Go.ChangeAt Go.RowKit

theorem TrodAll_below {H : Type} {enc : TypeId × Value → H} {P : Program} (hl : laidOutB P = true) {W W' : World} (hb : Below W.heap.size W W') :
    ∀ (ts : List TypeId) (vs : List Value) (ds : List (DataW H)) (ps : List MemPlace), (∀ t ∈ ts, P.readableRec t = true ∧ t < P.types.size) →
      DataW.TrodAll enc P W 0 (fun _ => true) true ts vs ds ps → DataW.TrodAll enc P W' 0 (fun b => decide (b < W.heap.size)) true ts vs ds ps
  | [], [], [], ps, _, h => h
  | t :: ts, v :: vs, d :: ds, ps, hr, h => by
    obtain ⟨p, q, hp, hq, e⟩ := h
    have lt : ∀ x ∈ p, x.block < W.heap.size := by obtain ⟨m, hm⟩ := hp; exact DataW.trod_lt m _ _ _ hm
    have ht := hr t (by simp)
    exact ⟨p, q, Below.trod hl ht.1 ht.2 hp hb lt, TrodAll_below hl hb ts vs ds q (fun x hx => hr x (by simp [hx])) hq, e⟩
  | [], [], _ :: _, _, _, h => by simp [DataW.TrodAll] at h
  | [], _ :: _, _, _, _, h => by simp [DataW.TrodAll] at h
  | _ :: _, [], _, _, _, h => by simp [DataW.TrodAll] at h
  | _ :: _, _ :: _, [], _, _, h => by simp [DataW.TrodAll] at h

theorem TrodAll_length {H : Type} {enc : TypeId × Value → H} {P : Program} {W : World} {b : Nat} {sp : Nat → Bool} {hd : Bool} :
    ∀ (ts : List TypeId) (vs : List Value) (ds : List (DataW H)) (ps : List MemPlace), DataW.TrodAll enc P W b sp hd ts vs ds ps → ds.length = ts.length ∧ vs.length = ts.length
  | [], [], [], _, _ => ⟨rfl, rfl⟩
  | t :: ts, v :: vs, d :: ds, ps, h => by
    obtain ⟨p, q, hp, hq, e⟩ := h
    have := TrodAll_length ts vs ds q hq
    simp [this.1, this.2]
  | [], [], _ :: _, _, h => by simp [DataW.TrodAll] at h
  | [], _ :: _, _, _, h => by simp [DataW.TrodAll] at h
  | _ :: _, [], _, _, h => by simp [DataW.TrodAll] at h
  | _ :: _, _ :: _, [], _, h => by simp [DataW.TrodAll] at h

theorem law_lifted {C : Checked} {os : Os} {f : FuncId} {fn : Func} {s : ChangeSpec} {H : Type} {enc : TypeId × Value → H} {tb : TypeId}
    (own : ownKnob C.prog.godebug = none) (started : os.Started) (noInit : C.prog.inits.idxOf? f = none) (hfn : C.prog.funcs[f]? = some fn) (hl : laidOutB C.prog = true)
    (witness : ∃ (w : World) (tape : Tape) (i : Input), w.os = os ∧ (w.forCall tape i).Shaped C.prog ∧ i.vars = [] ∧ Input.okWide C.prog (w.forCall tape i) .any w.heap.size f i ∧
      s.pre6 enc C.prog fn [] false (w.forCall tape i).memory i.args ∧ ({} : Assume).holds C.prog (lone (Frame.enter C.prog f i.args .normal) [] (w.forCall tape i)))
    (hvars : s.vars = []) (hres : fn.resultTypes = #[tb]) (htb : C.prog.underlying tb = some .bool)
    (hs : ∀ (ds : List (DataW H)), ds.length = fn.params.toList.length → s.fn H ds = { results := [.lit (.bool true)], args := ds })
    (hread : fn.params.toList.all (fun t => C.prog.readableRec t && decide (t < C.prog.types.size)) = true)
    (walk : ∀ (W : World) (base : Nat) (args : Array Value) (ds : List (DataW H)) (ps : List MemPlace),
      (∀ (j : Nat) t v, fn.params[j]? = some t → args[j]? = some v → Value.okWide C.prog W .any base t v) →
      DataW.TrodAll enc C.prog W 0 (fun _ => true) true fn.params.toList args.toList ds ps →
      (DataW.weightsEach C.prog fn.params.toList ds).all (· ≤ reachBytes) = true →
      Calls C.prog f args W fun e W' => e = .returned (.bool true) ∧ Below W.heap.size W W') :
    ReturnsInHanded {} C os f .any (s.pre6 enc C.prog fn [] false) (s.post enc C.prog fn false true false false) := by
  refine returnsInHanded_of_change_sized own started noInit hfn witness ?_
  intro W base args ds gs before hval hW _ hsz _
  have hW' := hW
  obtain ⟨p, q, hA, hV, rfl, hfz, hnd⟩ := hW
  rw [hvars] at hV
  obtain ⟨rfl, rfl⟩ := trodVars_none hV
  have hlen := TrodAll_length _ _ _ _ hA
  have hsz' : (DataW.weightsEach C.prog fn.params.toList ds).all (· ≤ reachBytes) = true := by
    have : s.plain.varTypes C.prog = [] := by simp [ChangeSpec.plain, DataSpec.varTypes, hvars]
    rw [this] at hsz
    simpa using hsz
  refine (walk W base args ds p hval hA hsz').mono fun e W' ⟨he, bel⟩ => ?_
  subst he
  have hfn' : s.fn H (ds ++ []) = { results := [.lit (.bool true)], args := ds } := by rw [List.append_nil]; exact hs ds hlen.1
  refine ⟨_, rfl, ds, [], _, [], p, [], hW', ?_, ?_, ?_, bel.frame _, fun h => by cases h⟩
  · rw [hfn', hres]; exact trodAll_mk1 (shut_bool htb _)
  · rw [hfn']; exact TrodAll_below hl bel _ _ _ _ (fun t ht => by have := List.all_eq_true.1 hread t ht; simpa using this) hA
  · rw [hfn', hvars]; exact rfl
end Go.Proofs.YtonogeiopicibaaGreatDoor

/- AttributeSpecialMatchesSpec: the given statement. Condition: what the law reads is of bulk at most 1048576 (the second form); the listed variables start as the program's text lays them. -/
namespace Go.Proofs.YtonogeiopicibaaGreatDoor
open Go.ChangeShapes Go.WideShapes Go.ChangeAt Go.RowKit Go.Shelf

theorem Law_own : ownKnob Tryz.prog.godebug = none := by kernel_rfl
theorem accept_same : (Rows.laid_unicode_utf8_acceptRanges : DataW Unit) = Lib.acceptData := by kernel_rfl
theorem first_same : (Rows.laid_unicode_utf8_first : DataW Unit) = Lib.firstData := by kernel_rfl
theorem space_same : (Rows.laid_strings_asciiSpace : DataW Unit) = Lib.tabData .u8 Lib.asciiSpaceTab := by kernel_rfl
theorem Law_glob {W : World} (hL : laidMetH Tryz.prog Rows.attributeSpecialMatchesSpecUptoRow.laid W) (hs : W.ShapedOpen Tryz.prog) : Glb W (sW W) := by
  have h3 : Lib.VarReads Tryz.prog W "unicode/utf8.first" Rows.laid_unicode_utf8_first := Lib.laidMet.reads hL (.tail _ (.tail _ (.tail _ (.head _))))
  have h4 : Lib.VarReads Tryz.prog W "unicode/utf8.acceptRanges" Rows.laid_unicode_utf8_acceptRanges := Lib.laidMet.reads hL (.head _)
  have h5 : Lib.VarReads Tryz.prog W "strings.asciiSpace" Rows.laid_strings_asciiSpace := Lib.laidMet.reads hL (.tail _ (.tail _ (.head _)))
  rw [first_same] at h3
  rw [accept_same] at h4
  rw [space_same] at h5
  have hT : Lib.Utf8Tabs 2 3 W := utf8Tabs_of_readsT (U8Types.of196 Tryz.laysValid) ⟨by kernel_rfl, by kernel_rfl, by kernel_rfl, by kernel_rfl, by kernel_rfl, by kernel_rfl, by kernel_rfl⟩ h3 h4
  have hS : Lib.TabIs Tryz.prog W "strings.asciiSpace" .u8 Lib.asciiSpaceTab := by
    obtain ⟨g, t, cs, fuel, p, hg, hty, hvar, hd⟩ := h5
    obtain rfl := Option.some.inj ((show Tryz.prog.globalNamed "strings.asciiSpace" = some 0 by kernel_rfl).symm.trans hg)
    obtain rfl := Option.some.inj ((show (Tryz.prog.globals[0]?).map (·.type) = some 78 by kernel_rfl).symm.trans hty)
    have := Lib.cells_of_tab Tryz.underlying78 Tryz.underlying5 (by kernel_rfl) (by kernel_rfl) hd
    unfold Lib.TabIs
    rw [hvar, ← this]
  have hM := Go.Proofs.cell_of_shapedOpen_int (g := 4) (t := 3) (zero := #[.int .i64 0]) hs (of_decide_eq_true (by kernel_rfl)) (by kernel_rfl) rfl (by kernel_rfl) (by kernel_rfl) Tryz.underlying3
  refine ⟨fun b o => W.cell? ⟨b, o, none⟩, ⟨hM, fun c hc => hT.1 c hc, fun i hi => hT.2 i hi, fun c hc => ?_⟩, fun b o v hv => ⟨hv, World.block_lt_of_cell? _ _ hv⟩⟩
  show W.cell? ⟨0, c, none⟩ = _
  rw [hS.cell (by kernel_rfl) c (by rw [Lib.asciiSpaceTab_length]; exact hc), Lib.asciiSpaceTab_at c hc]

noncomputable def Law_world (os : Os) : World :=
  let N := (World.settled Tryz.prog os).heap.size
  let w0 := World.holding Tryz.prog os ⟨#[.cells (Lib.whiteT.map fun (z : Nat) => Value.int .u16 (z : Int)).toArray 147, .cells #[.slice (some ⟨N, 0, none⟩) 7 7, .slice none 0 0, .int .i64 2] 144], #[], []⟩
  let put (h : Array Obj) (g : Nat) (cs : Array Value) : Array Obj := h.modify g fun
    | .cells _ t frozen => .cells cs t frozen
    | o => o
  let h1 := put w0.heap 0 (Lib.asciiSpaceTab.map fun z => Value.int .u8 z).toArray
  let h2 := put h1 2 (Lib.firstTab.map fun z => Value.int .u8 z).toArray
  let h3 := put h2 3 ((List.range 16).flatMap fun i => [Value.int .u8 (Lib.accLo i), Value.int .u8 (Lib.accHi i)]).toArray
  let h4 := put h3 1 #[.pointer (some ⟨N + 1, 0, none⟩)]
  { w0 with heap := h4 }
def Law_arg : Array Value := #[.agg #[.slice none 0 0], .agg #[.int .i64 0, .bool false, .slice none 0 0, .bool false, .slice none 0 0, .string ⟨#[]⟩, .int .i64 0], .int .i64 0, .string ⟨#[]⟩]
theorem Law_met (os : Os) : laidMet Tryz.prog Rows.attributeSpecialMatchesSpecUptoRow.laid ((Law_world os).forCall (fun _ _ => 0) ⟨#[], Law_arg, []⟩).memory :=
  laidMet_of_run' 10 (by kernel_rfl) (by kernel_rfl)
theorem Law_row (os : Os) {H : Type} (enc : TypeId × Value → H) :
    (Rows.OpenSpec.upto Rows.attributeSpecialMatchesSpecSpec).preRow enc Tryz.prog Tryz.f3 Rows.attributeSpecialMatchesSpecUptoRow.domain false Rows.attributeSpecialMatchesSpecUptoRow.laid ((Law_world os).forCall (fun _ _ => 0) ⟨#[], Law_arg, []⟩).memory Law_arg := by
  have hw : (DataW.whole enc Tryz.prog ((Law_world os).forCall (fun _ _ => 0) ⟨#[], Law_arg, []⟩).memory Tryz.f3.params.toList Rows.attributeSpecialMatchesSpecSpec.vars false Law_arg.toList 8).map (fun x => (x.1, x.2.1)) =
      some ([.agg [.nil], .agg [.lit (.int .i64 0), .agg [.lit (.bool false), .nil], .agg [.lit (.bool false), .nil], .lit (.string []), .lit (.int .i64 0)], .lit (.int .i64 0), .lit (.string [])], []) := by kernel_rfl
  obtain ⟨⟨x1, x2, x3⟩, hx, hx1⟩ := Option.map_eq_some_iff.1 hw
  simp only [Prod.mk.injEq] at hx1
  obtain ⟨rfl, rfl⟩ := hx1
  exact OpenSpec.preRow_of_cond 8 hx (by kernel_rfl) (fun k hk => by cases hk; kernel_rfl) (by kernel_rfl) (Law_met os)

theorem Str_open {H : Type} {enc : TypeId × Value → H} {P : Program} {W : World} {base : Nat} {t : TypeId} {v : Value} {d : DataW H} {ps : List MemPlace}
    (ht : P.underlying t = some .string) (hv : Value.okWide P W .any base t v) (h : DataW.Trod enc P W 0 (fun _ => true) true t v d ps) :
    ∃ s : ByteArray, v = .string s ∧ s.size ≤ Rows.uptoBulk d := by
  obtain ⟨s, rfl⟩ := okWide_string ht hv
  obtain ⟨fuel, hf⟩ := h
  obtain ⟨k, hk, hx, _⟩ := DataW.trod_string ht hf
  simp only [Prod.mk.injEq] at hx
  simp only [Value.cells, List.cons.injEq, and_true] at hk
  refine ⟨s, rfl, ?_⟩
  rw [hx.1]
  simp only [Value.string.injEq] at hk
  rw [hk]
  simp only [Rows.uptoBulk]
  have e : k.data.toList.length = k.size := by rw [Array.length_toList]; rfl
  omega

set_option maxRecDepth 100000 in
set_option maxHeartbeats 2000000 in
theorem Law_lifted (os : Os) (started : os.Started) (H : Type) (enc : TypeId × Value → H) (F : Stop.Interp) :
    ReturnsInHanded {} Tryz.checked os 3 .any ((Rows.OpenSpec.upto Rows.attributeSpecialMatchesSpecSpec).preRow enc Tryz.prog Tryz.f3 Rows.attributeSpecialMatchesSpecUptoRow.domain false Rows.attributeSpecialMatchesSpecUptoRow.laid) (((Rows.OpenSpec.upto Rows.attributeSpecialMatchesSpecSpec).at F).post enc Tryz.prog Tryz.f3 false true false false) := by
  refine returnsInHanded_of_row (C := Tryz.checked) (s := Rows.OpenSpec.upto Rows.attributeSpecialMatchesSpecSpec) Law_own started (by kernel_rfl) Tryz.func3
    (witness_row_atRef (enc := enc) (C := Tryz.checked) false (Law_world os) Law_arg rfl (by kernel_rfl) (by kernel_rfl) (by kernel_rfl) (Law_row os enc)) ?_
  intro W base args ds gs before hval0 hW _ hk _ hL hS _
  have hval : ∀ (j : Nat) t v, Tryz.f3.params[j]? = some t → args[j]? = some v → Value.okWide Tryz.prog W .any base t v := hval0
  have hW' := hW
  obtain ⟨p, q, hA0, hV, rfl, hfz, hnd⟩ := hW
  have hA : DataW.TrodAll enc Tryz.prog W 0 (fun _ => true) true Tryz.f3.params.toList args.toList ds p := hA0
  obtain ⟨rfl, rfl⟩ := trodVars_none hV
  have hA1 := hA
  rw [Tryz.params3] at hA hval
  obtain ⟨v0, vs0, d0, ds0, p0, q0, hargs, rfl, rfl, h0, r0⟩ := trodAll_cons hA
  obtain ⟨v1, vs1, d1, ds1, p1, q1, rfl, rfl, rfl, h1, r1⟩ := trodAll_cons r0
  obtain ⟨v2, vs2, d2, ds2, p2, q2, rfl, rfl, rfl, h2, r2⟩ := trodAll_cons r1
  obtain ⟨v3, vs3, d3, ds3, p3, q3, rfl, rfl, rfl, h3, r3⟩ := trodAll_cons r2
  obtain ⟨rfl, rfl, rfl⟩ := trodAll_nil r3
  obtain rfl : args = #[v0, v1, v2, v3] := by cases args; simp_all
  have hb : Rows.uptoBulkAll [d0, d1, d2, d3] ≤ 1048576 := by
    have := hk _ rfl
    simpa [Rows.uptoSmall] using this
  simp only [Rows.uptoBulkAll] at hb
  obtain ⟨x0, a0, i0⟩ := Opn.agg Opn.heap Tryz.underlying24 (hval 0 24 v0 rfl rfl) h0
  obtain ⟨x1, a1, i1⟩ := Opn.agg Opn.val Tryz.underlying29 (hval 1 29 v1 rfl rfl) h1
  obtain ⟨z2, rfl, -⟩ := Int_open Tryz.underlying3 (hval 2 3 v2 rfl rfl) h2
  obtain ⟨z3, rfl, b3⟩ := Str_open Tryz.underlying9 (hval 3 9 v3 rfl rfl) h3
  have hG := Law_glob hL hS
  refine ((Law_ok x0 x1 z2 z3 (i0 1048576 (by omega) (Nat.le_refl _)) (i1 1048576 (by omega) (Nat.le_refl _)) (by omega)).2 W (sW W) [v0, v1, .int .i64 z2, .string z3] (fun _ _ h => h) hG ⟨a0, a1, rfl, rfl, trivial⟩).mono fun e W' hQ => ?_
  obtain ⟨s', x, he, hp, hst⟩ := hQ
  have hp : x = .bool true := hp
  subst hp
  subst he
  have bel := hst.below
  have hl : laidOutB Tryz.prog = true := by kernel_rfl
  have hread : Tryz.f3.params.toList.all (fun t => Tryz.prog.readableRec t && decide (t < Tryz.prog.types.size)) = true := by kernel_rfl
  refine ⟨_, rfl, [d0, d1, d2, d3], [], _, [], (p0 ++ (p1 ++ (p2 ++ (p3 ++ ([]))))), [], hW', ?_, ?_, ?_, bel.frame _, fun h => by cases h⟩
  · exact trodAll_mk1 (shut_bool Tryz.underlying4 _)
  · exact TrodAll_below hl bel _ _ _ _ (fun t ht => by have := List.all_eq_true.1 hread t ht; simpa using this) hA1
  · rfl

theorem Law_fi : (Rows.attributeSpecialMatchesSpecUptoRow.inPlace == Tryz.pinned.checked.prog.inPlace 3) = true := by kernel_rfl
theorem Law_fu : (Rows.attributeSpecialMatchesSpecUptoRow.unfollowed == Tryz.pinned.checked.prog.unfollowed 3) = true := by kernel_rfl
theorem Law_fr : (Rows.attributeSpecialMatchesSpecUptoRow.recurses == Tryz.pinned.checked.prog.recurses 3) = true := by kernel_rfl
theorem Law_fn : (Rows.attributeSpecialMatchesSpecUptoRow.named == Tryz.pinned.checked.prog.varsNamed 3) = true := by kernel_rfl
theorem Law_facts : joinedFacts Tryz.pinned.checked.prog 3 Tryz.f3 (Rows.OpenSpec.upto Rows.attributeSpecialMatchesSpecSpec).bare Rows.attributeSpecialMatchesSpecUptoRow = true := by
  unfold joinedFacts
  rw [Law_fi, Law_fu, Law_fr, Law_fn]
  kernel_rfl
theorem Law_inst : Tryz.f3.isInstance Tryz.pinned.checked.prog Rows.attributeSpecialMatchesSpecUptoRow.origin Rows.attributeSpecialMatchesSpecUptoRow.targs := of_decide_eq_true (by kernel_rfl)
theorem Law_wrap : Tryz.f3.isWrapper Tryz.pinned.checked.prog Rows.attributeSpecialMatchesSpecUptoRow.wrapper Rows.attributeSpecialMatchesSpecUptoRow.mainSum := by unfold Func.isWrapper; first | (rw [if_pos (by decide +kernel)]; kernel_rfl) | (rw [if_neg (by decide +kernel)]; exact ⟨rfl, rfl⟩)
theorem Law_named : Tryz.pinned.checked.prog.funcNamed Rows.attributeSpecialMatchesSpecUptoRow.func = some 3 := by kernel_rfl
theorem Law_looks : false = Tryz.pinned.checked.prog.looks [] := by kernel_rfl
theorem Law_goes : false = Rows.attributeSpecialMatchesSpecUptoRow.goesBy Tryz.pinned.checked.prog := by kernel_rfl
theorem Law_wf : Rows.attributeSpecialMatchesSpecUptoRow.wfByText (Rows.OpenSpec.upto Rows.attributeSpecialMatchesSpecSpec) = true := by kernel_rfl
theorem Law_main : Tryz.pinned.checked.prog.mainIs = some (Rows.attributeSpecialMatchesSpecUptoCard.stood.harness.1, Rows.attributeSpecialMatchesSpecUptoCard.stood.harness.2.toList) := by kernel_rfl
theorem Law_said : Rows.AttributeSpecialMatchesSpecUptoSaid :=
  OpenClaim.holds_of_cond 3 Tryz.f3 rfl rfl rfl rfl rfl rfl rfl ⟨rfl, rfl, rfl, rfl, rfl⟩ rfl rfl rfl rfl rfl Law_named Tryz.func3 Law_facts Law_inst Law_wrap
    (fun os started H enc _ F => by rw [OpenClaim.pre_eq_preRow]; exact Law_lifted os started H enc F)

theorem Law_plain (f : FuncId) (fn : Func) (hf : Tryz.pinned.checked.prog.funcNamed "brindlewood/brindlewoodlaw7.AttributeSpecialMatchesSpec" = some f) (hfn : Tryz.pinned.checked.prog.funcs[f]? = some fn) :
    false = Tryz.pinned.checked.prog.looks [] ∧ ∀ (j : Nat) t, fn.params[j]? = some t → Tryz.pinned.checked.prog.wantsStandIn t = false := by
  obtain rfl : f = 3 := Option.some.inj (Law_named.symm.trans hf) |>.symm
  obtain rfl : fn = Tryz.f3 := (Option.some.inj (Tryz.func3.symm.trans hfn)).symm
  refine ⟨Law_looks, fun j t ht => ?_⟩
  rw [Tryz.params3] at ht
  have hm := Array.mem_of_getElem? ht
  simp only [List.mem_toArray, List.mem_cons, List.not_mem_nil, or_false] at hm
  have wh : Tryz.prog.wantsStandIn 24 = false := by kernel_rfl
  have wi : Tryz.prog.wantsStandIn 3 = false := by kernel_rfl
  have ws : Tryz.prog.wantsStandIn 9 = false := by kernel_rfl
  have wv : Tryz.prog.wantsStandIn 29 = false := by kernel_rfl
  rcases hm with rfl | rfl | rfl | rfl
  · exact wh
  · exact wv
  · exact wi
  · exact ws

theorem Law_holds : Rows.AttributeSpecialMatchesSpecUptoCardSaid :=
  Claim7.holds_tied_plain_at .later [] _ _ _ _ Law_said (fun _ h => by cases h) Law_wf (fun _ h => by cases h) attributeSpecialMatchesSpecUpto_row_tie rfl ⟨rfl, rfl⟩ Law_main rfl Law_plain Law_goes
end Go.Proofs.YtonogeiopicibaaGreatDoor
