/- Part 20 of the proof. -/
import Derived.Test.YtonogeiopicibaaGreatDoorM19

/- Walks by the evaluator: the fifth group: what an object refers to. -/
namespace Go.Proofs.YtonogeiopicibaaGreatDoor
open Go.RowKit
variable {md me : Bool}

/-- What the fourth group tells. -/
structure Vs (h : List Ob) (o : Ob) : Prop where
  ok : ∀ v ∈ o.keys ++ o.items, vokS (fixV o v) = true
  cls : isObj h o.cls = true
  refs : ∀ r ∈ o.refs, isObj h r = true
  order : ∀ r ∈ o.order, isObj h r = true
  vals : ∀ v ∈ o.keys ++ o.items, v.k = 6 → isObj h v.r = true
  weak : o.kind = 18 → o.state ≠ 0 → isObj h (IntKind.i64.wrap (o.state - 1)) = true
theorem refsOf_mem : ∀ {l : List Vl} {v : Vl}, v ∈ l → v.k = 6 → v.r ∈ refsOf l
  | [], _, h, _ => by cases h
  | x :: l, v, h, hk => by
    rw [refsOf]
    rcases List.mem_cons.1 h with rfl | h
    · rw [if_pos hk]; simp
    · split
      · exact List.mem_cons_of_mem _ (refsOf_mem h hk)
      · exact refsOf_mem h hk
theorem vs_of {h : List Ob} {o : Ob} (hv : valuesS h o = 0) : Vs h o := by
  unfold valuesS at hv
  split at hv
  · rename_i h1
    split at hv
    · rename_i h2
      rw [List.all_eq_true] at h1 h2
      have hm : ∀ r, (r = o.cls ∨ r ∈ o.refs ∨ r ∈ o.order) → isObj h r = true := fun r hr => h2 r (by
        unfold numsS numsB
        refine List.mem_append.2 (.inl (List.mem_append.2 (.inl ?_)))
        rcases hr with rfl | hr | hr
        · simp
        · simp [hr]
        · simp [hr])
      refine ⟨h1, hm _ (.inl rfl), fun r hr => hm r (.inr (.inl hr)), fun r hr => hm r (.inr (.inr hr)), fun v hv hk => h2 _ ?_, fun hk hs => h2 _ ?_⟩
      · unfold numsS
        exact List.mem_append.2 (.inl (List.mem_append.2 (.inr (refsOf_mem hv hk))))
      · unfold numsS
        rw [if_pos ⟨hk, hs⟩]
        simp
    · cases hv
  · cases hv
theorem sh_of {o : Ob} (hs : shapeS o = 0) : (o.items.length : Int) = cntS o ∧ 0 ≤ o.code ∧ 0 ≤ o.state ∧ o.state ≤ greatS o.kind ∧ (o.kind ≠ 9 → o.order = []) := by
  unfold shapeS at hs
  split at hs
  · split at hs
    · cases hs
    · rename_i h2
      rw [Bool.not_eq_true] at h2
      simp only [tailS, Bool.or_eq_false_iff, Bool.not_eq_false', decide_eq_true_eq, decide_eq_false_iff_not] at h2
      obtain ⟨⟨⟨⟨h3, h4⟩, h5⟩, h6⟩, h7⟩ := h2
      refine ⟨h3, by omega, by omega, by omega, fun hk => ?_⟩
      rw [decide_eq_false hk, Bool.not_false, Bool.true_and, decide_eq_false_iff_not] at h7
      exact List.eq_nil_of_length_eq_zero (by omega)
  · cases hs
theorem cnt_of (k : Int) (c : UInt8) (hu : usedS k ≠ ⟨#[]⟩ ∧ lastC (usedS k) ≠ 42 ∧ lastC (usedS k) ≠ 61 ∧ lastC (usedS k) ≠ 58) {o : Ob} (hk : o.kind = k) : cntS o = IntKind.i64.wrap (IntKind.u8.wrap (lastC (usedS k) - 48)) := by
  unfold cntS
  rw [hk, if_neg hu.1, if_neg hu.2.1, if_neg hu.2.2.1, if_neg hu.2.2.2]
theorem cnt5 {o : Ob} (hk : o.kind = 5) : cntS o = 3 := by rw [cnt_of 5 0 (by decide +kernel) hk]; decide +kernel
theorem cnt8 {o : Ob} (hk : o.kind = 8) : cntS o = 2 := by rw [cnt_of 8 0 (by decide +kernel) hk]; decide +kernel
theorem cnt14 {o : Ob} (hk : o.kind = 14) : cntS o = 1 := by rw [cnt_of 14 0 (by decide +kernel) hk]; decide +kernel
theorem cnt15 {o : Ob} (hk : o.kind = 15) : cntS o = 2 := by rw [cnt_of 15 0 (by decide +kernel) hk]; decide +kernel
theorem cnt16 {o : Ob} (hk : o.kind = 16) : cntS o = 2 := by rw [cnt_of 16 0 (by decide +kernel) hk]; decide +kernel
theorem cnt19 {o : Ob} (hk : o.kind = 19) : cntS o = 2 := by rw [cnt_of 19 0 (by decide +kernel) hk]; decide +kernel
theorem cnt20 {o : Ob} (hk : o.kind = 20) : cntS o = 1 := by rw [cnt_of 20 0 (by decide +kernel) hk]; decide +kernel
theorem cnt10 {o : Ob} (hk : o.kind = 10) : cntS o = o.names.length := by
  unfold cntS
  rw [hk, if_neg (by decide +kernel), if_neg (by decide +kernel), if_pos (by decide +kernel)]
def openS (n : Int) : Bool := decide (n = 0) || decide (28 ≤ n)
def celP (h : List Ob) (r : Int) : Bool := decide ((obAt h r).kind = 6)
def basP (h : List Ob) (i r : Int) : Bool := !((decide (i ≤ r) || !decide ((obAt h r).kind = 9)) || !openS r)
abbrev itm (o : Ob) (k : Int) : Vl := o.items.getD k.toNat vl0
def supT (h : List Ob) (o : Ob) (k : Int) : Bool := (decide ((objS h (itm o 0)).kind = 9) && isObj h k) && hasB (obAt h k).order (itm o 0).r
/-- The fifth group. -/
def linksS (h : List Ob) (o : Ob) (i : Int) : Bool :=
  if o.kind = 5 then rngS o
  else if o.kind = 7 then (if o.refs.all (celP h) = true then decide ((obAt h o.cls).kind = 11) else false)
  else if o.kind = 8 then callS h (itm o 0)
  else if o.kind = 14 then callS h (itm o 0)
  else if o.kind = 9 then (if o.refs.all (basP h i) = true then (decide (1 ≤ (o.refs.length : Int)) && decide ((o.refs.length : Int) ≤ 8)) else false)
  else if o.kind = 10 then (decide ((obAt h o.cls).kind = 9) && openS o.cls) && (!hasB (obAt h o.cls).order 28 || excOkS h o i)
  else if o.kind = 15 then (if (objS h (itm o 1)).kind = 10 then supT h o (objS h (itm o 1)).cls else if (objS h (itm o 1)).kind = 9 then supT h o (itm o 1).r else false)
  else if o.kind = 16 then (if (objS h (itm o 0)).kind = 3 then (decide ((itm o 1).k = 2) && !(itm o 1).nn) else if (objS h (itm o 0)).kind = 4 then (decide ((itm o 1).k = 2) && !(itm o 1).nn)
    else if (objS h (itm o 0)).kind = 0 then ((decide ((itm o 0).k = 4) || decide ((itm o 0).k = 5)) && decide ((itm o 1).k = 0))
    else (((decide ((objS h (itm o 0)).kind = 1) || decide ((objS h (itm o 0)).kind = 2)) || decide ((objS h (itm o 0)).kind = 5)) && decide ((itm o 1).k = 0)))
  else if o.kind = 18 then (if 0 < o.state then (decide ((obAt h (o.state - 1)).kind = 10) && decide (49 ≤ (obAt h (o.state - 1)).cls)) else true)
  else if o.kind = 19 then decide ((objS h (itm o 0)).kind = 17)
  else if o.kind = 20 then (decide ((itm o 0).k = 2) && !(itm o 0).nn)
  else true
theorem wrap_pred {n : Int} (h0 : 0 < n) (h1 : n ≤ 9223372036854775807) : IntKind.i64.wrap (n - 1) = n - 1 := InI.wrap ⟨by omega, by omega⟩

set_option maxHeartbeats 1000000 in
theorem links_ok (h : List Ob) (n : Int) (hn : inH h n) (hh : HpIn h) (hv : valuesS h (obAt h n) = 0) (hs : shapeS (obAt h n) = 0) : Fn Tryz.prog 47 [hpD md h, .v (.int .i64 n)] (.v (.bool (linksS h (obAt h n) n))) := by
  have hO : ObIn (h.getD n.toNat ob0) := hh.at n
  have hil := hO.il
  have hrl := hO.rl
  have hst := hO.st
  have hV : Vs h (h.getD n.toNat ob0) := vs_of hv
  have hS : ((h.getD n.toNat ob0).items.length : Int) = cntS (h.getD n.toNat ob0) := (sh_of hs).1
  have hcl : inH h (h.getD n.toNat ob0).cls := isObj_in hV.cls
  refine fn_ev tabT Tryz.func47 rfl rfl rfl rfl rfl rfl ?_
  intro w0 s0 mx
  refine ev_R tabT [] 100 ?_
  refine ev_seq (ev_region tabT [] 200 rfl ?_)
  repeat (first | refine sat_same ?_ | refine sat_impA ?_ | refine sat_need (by exact hn) ?_)
  refine sat_done ?_
  refine exS_normal ?_
  refine ev_seq ?_
  refine ev_R tabT [] 300 ?_
  refine ev_block ?_
  refine ev_R tabT [] 400 ?_
  refine ev_if (fun c3 => ?_) (fun c3 => ?_)
  · 
    refine ev_seq (ev_region tabT [] 500 rfl ?_)
    repeat (first | refine sat_same ?_ | refine sat_impA ?_ | refine sat_needA ?_)
    refine sat_fn _ (RangeOk_ok (h.getD n.toNat ob0) (by have := cnt5 c3; omega) hil) rfl ?_
    repeat (first | refine sat_same ?_ | refine sat_impA ?_ | refine sat_needA ?_)
    refine sat_done ?_
    refine exS_normal ?_
    refine ev_ret ?_
    refine exBl_ret ?_
    refine exS_ret ?_
    exact FinV.ret rfl (SubP.bool (by rw [linksS, if_pos c3] <;> rfl))
  · 
    refine ev_R tabT [] 600 ?_
    refine ev_if (fun c5 => ?_) (fun c5 => ?_)
    · 
      refine ev_seq ?_
      refine ev_R tabT [] 700 ?_
      refine ev_block ?_
      refine ev_loopK (ι := Al (h.getD n.toNat ob0).refs (celP h)) [2, 5, 30, 31] [0, 105] 750 (fun x => [(32, .v (.int .i64 x.k))]) (fun _ => []) (fun x => (h.getD n.toNat ob0).refs.length - x.k) ⟨0, Nat.zero_le _, fun j x hj => by omega⟩ ?_
      refine ⟨⟨le_t, le_o, rfl, rfl⟩, fun x => ?_⟩
      have hk := x.le
      refine ev_R tabT [] 800 ?_
      refine ev_seq ?_
      refine ev_if (fun c7 => ?_) (fun c7 => ?_)
      · 
        refine ev_skip ?_
        refine exS_normal ?_
        refine ev_seq ?_
        refine ev_block ?_
        refine ev_R tabT [] 900 ?_
        refine ev_seq (ev_region tabT [] 1000 rfl ?_)
        repeat (first | refine sat_same ?_ | refine sat_impA ?_ | refine sat_need (by exact isObj_in (hV.refs _ (mem_getD c7 0))) ?_)
        refine sat_done ?_
        refine exS_normal ?_
        refine ev_cond rfl (fun c9 => ?_) (fun c9 => ?_)
        · simp only [Bool.not_eq_true'] at c9
          refine ev_R tabT [] 1100 ?_
          refine ev_ret ?_
          refine exBl_ret ?_
          refine exS_ret ?_
          refine exL_ret ?_
          refine exBl_ret ?_
          refine exS_ret ?_
          refine exBl_ret ?_
          refine exS_ret ?_
          exact FinV.ret rfl (SubP.bool (by rw [linksS, if_neg c3, if_pos c5, if_neg (by rw [Al.no (p := celP h) (e := (0 : Int)) c7 c9]; decide)] <;> rfl))
        · simp only [Bool.not_eq_false'] at c9
          refine ev_skip ?_
          refine exBl_normal ?_
          refine exS_normal ?_
          refine ev_Q tabT [] 1200 ?_
          exact exL_normal (x.next (e := (0 : Int)) c7 c9) ⟨le_t, le_o, rfl, rfl⟩ (by show (h.getD n.toNat ob0).refs.length - (x.k + 1) < (h.getD n.toNat ob0).refs.length - x.k; omega)
      · 
        refine ev_exit ?_
        refine exS_exit ?_
        refine exL_exit ?_
        refine exBl_same ?_
        refine exS_normal ?_
        refine ev_seq (ev_region tabT [] 1300 rfl ?_)
        repeat (first | refine sat_same ?_ | refine sat_impA ?_ | refine sat_need (by exact hcl) ?_)
        refine sat_done ?_
        refine exS_normal ?_
        refine ev_ret ?_
        refine exBl_ret ?_
        refine exS_ret ?_
        exact FinV.ret rfl (SubP.bool (by rw [linksS, if_neg c3, if_pos c5, if_pos (x.yes c7)] <;> rfl))
    · 
      refine ev_seq ?_
      refine ev_R tabT [] 1400 ?_
      refine ev_if (fun c13 => ?_) (fun c13 => ?_)
      · 
        refine ev_skip ?_
        refine exS_normal ?_
        refine ev_if (fun c13x => ?_) (fun c13x => ?_)
        · 
          refine ev_seq (ev_drawn tabT [] [[], [], [1], [1, 2], [1, 2, 3], [0, 1, 2, 3, 4], [0, 1, 2, 3, 4, 5]] 1600 mixT (by kernel_rfl) rfl ?_)
          repeat (first | refine sat_same ?_ | refine sat_impA ?_ | refine sat_need (by first | (refine ⟨by decide, ?_⟩; show _ < (h.getD n.toNat ob0).items.length; first | (have := cnt8 c13; omega) | (have := cnt14 c14; omega))) ?_)
          refine sat_fn _ (callable_ok _ _) rfl ?_
          repeat (first | refine sat_same ?_ | refine sat_impA ?_ | refine sat_need (by first | (refine ⟨by decide, ?_⟩; show _ < (h.getD n.toNat ob0).items.length; first | (have := cnt8 c13; omega) | (have := cnt14 c14; omega))) ?_)
          refine sat_done ?_
          refine exS_normal ?_
          refine ev_ret ?_
          refine exBl_ret ?_
          refine exS_ret ?_
          exact FinV.ret rfl (SubP.bool (by rw [linksS, if_neg c3, if_neg c5, if_pos c13] <;> rfl))
        · 
          simp_all
      · 
        refine ev_Q tabT [] 1500 ?_
        refine exS_normal ?_
        refine ev_if (fun c14 => ?_) (fun c14 => ?_)
        · 
          refine ev_seq (ev_drawn tabT [] [[], [], [1], [1, 2], [1, 2, 3], [0, 1, 2, 3, 4], [0, 1, 2, 3, 4, 5]] 1600 mixT (by kernel_rfl) rfl ?_)
          repeat (first | refine sat_same ?_ | refine sat_impA ?_ | refine sat_need (by first | (refine ⟨by decide, ?_⟩; show _ < (h.getD n.toNat ob0).items.length; first | (have := cnt8 c13; omega) | (have := cnt14 c14; omega))) ?_)
          refine sat_fn _ (callable_ok _ _) rfl ?_
          repeat (first | refine sat_same ?_ | refine sat_impA ?_ | refine sat_need (by first | (refine ⟨by decide, ?_⟩; show _ < (h.getD n.toNat ob0).items.length; first | (have := cnt8 c13; omega) | (have := cnt14 c14; omega))) ?_)
          refine sat_done ?_
          refine exS_normal ?_
          refine ev_ret ?_
          refine exBl_ret ?_
          refine exS_ret ?_
          exact FinV.ret rfl (SubP.bool (by rw [linksS, if_neg c3, if_neg c5, if_neg c13, if_pos c14] <;> rfl))
        · 
          refine ev_R tabT [] 1700 ?_
          refine ev_if (fun c16 => ?_) (fun c16 => ?_)
          · 
            refine ev_seq ?_
            refine ev_R tabT [] 1800 ?_
            refine ev_block ?_
            refine ev_loopK (ι := Al (h.getD n.toNat ob0).refs (basP h n)) [1, 2, 5, 64, 65] [0, 105] 1850 (fun x => [(66, .v (.int .i64 x.k))]) (fun _ => []) (fun x => (h.getD n.toNat ob0).refs.length - x.k) ⟨0, Nat.zero_le _, fun j x hj => by omega⟩ ?_
            refine ⟨⟨le_t, le_o, rfl, rfl⟩, fun x => ?_⟩
            have hk := x.le
            refine ev_R tabT [] 1900 ?_
            refine ev_seq ?_
            refine ev_if (fun c18 => ?_) (fun c18 => ?_)
            · 
              refine ev_skip ?_
              refine exS_normal ?_
              refine ev_seq ?_
              refine ev_block ?_
              refine ev_R tabT [] 2000 ?_
              refine ev_seq (ev_region tabT [] 2100 rfl ?_)
              repeat (first | refine sat_same ?_ | refine sat_impA ?_ | refine sat_needA ?_)
              refine sat_fnG _ (fun hg6 => isClass_ok _ _ (isObj_in (hV.refs _ (mem_getD c18 0)))) rfl ?_
              repeat (first | refine sat_same ?_ | refine sat_impA ?_ | refine sat_needA ?_)
              refine sat_fnG _ (fun hg11 => Open_ok _) rfl ?_
              repeat (first | refine sat_same ?_ | refine sat_impA ?_ | refine sat_needA ?_)
              refine sat_done ?_
              refine exS_normal ?_
              refine ev_cond rfl (fun c20 => ?_) (fun c20 => ?_)
              · 
                refine ev_R tabT [] 2200 ?_
                refine ev_ret ?_
                refine exBl_ret ?_
                refine exS_ret ?_
                refine exL_ret ?_
                refine exBl_ret ?_
                refine exS_ret ?_
                refine exBl_ret ?_
                refine exS_ret ?_
                exact FinV.ret rfl (SubP.bool (by rw [linksS, if_neg c3, if_neg c5, if_neg c13, if_neg c14, if_pos c16, if_neg (by rw [Al.no (p := basP h n) (e := (0 : Int)) c18 (congrArg Bool.not c20)]; decide)] <;> rfl))
              · 
                refine ev_skip ?_
                refine exBl_normal ?_
                refine exS_normal ?_
                refine ev_Q tabT [] 2300 ?_
                exact exL_normal (x.next (e := (0 : Int)) c18 (congrArg Bool.not c20)) ⟨le_t, le_o, rfl, rfl⟩ (by show (h.getD n.toNat ob0).refs.length - (x.k + 1) < (h.getD n.toNat ob0).refs.length - x.k; omega)
            · 
              refine ev_exit ?_
              refine exS_exit ?_
              refine exL_exit ?_
              refine exBl_same ?_
              refine exS_normal ?_
              refine ev_R tabT [] 2400 ?_
              refine ev_ret ?_
              refine exBl_ret ?_
              refine exS_ret ?_
              exact FinV.ret rfl (SubP.bool (by rw [linksS, if_neg c3, if_neg c5, if_neg c13, if_neg c14, if_pos c16, if_pos (x.yes c18)] <;> rfl))
          · 
            refine ev_R tabT [] 2500 ?_
            refine ev_if (fun c24 => ?_) (fun c24 => ?_)
            · 
              refine ev_seq (ev_region tabT [] 2600 rfl ?_)
              repeat (first | refine sat_same ?_ | refine sat_impA ?_ | refine sat_need (by first | exact hcl | (intro _; exact hcl)) ?_)
              refine sat_fn _ (isClass_ok _ _ hcl) rfl ?_
              repeat (first | refine sat_same ?_ | refine sat_impA ?_ | refine sat_need (by first | exact hcl | (intro _; exact hcl)) ?_)
              refine sat_fnG _ (fun hg7 => Open_ok _) rfl ?_
              repeat (first | refine sat_same ?_ | refine sat_impA ?_ | refine sat_need (by first | exact hcl | (intro _; exact hcl)) ?_)
              refine sat_fnG _ (fun hg17 => ContainsI_ok _ _) rfl ?_
              repeat (first | refine sat_same ?_ | refine sat_impA ?_ | refine sat_need (by first | exact hcl | (intro _; exact hcl)) ?_)
              refine sat_fnG _ (fun hg22 => exceptionOk_ok _ _ hn hh hcl (by have := cnt10 c24; show (h.getD n.toNat ob0).items.length = (h.getD n.toNat ob0).names.length; omega)) rfl ?_
              repeat (first | refine sat_same ?_ | refine sat_impA ?_ | refine sat_need (by first | exact hcl | (intro _; exact hcl)) ?_)
              refine sat_done ?_
              refine exS_normal ?_
              refine ev_ret ?_
              refine exBl_ret ?_
              refine exS_ret ?_
              exact FinV.ret rfl (SubP.bool (by rw [linksS, if_neg c3, if_neg c5, if_neg c13, if_neg c14, if_neg c16, if_pos c24] <;> rfl))
            · 
              refine ev_R tabT [] 2700 ?_
              refine ev_if (fun c26 => ?_) (fun c26 => ?_)
              · 
                refine ev_seq (ev_drawn tabT [] [[], [0], [0, 1], [0, 1, 2], [], [4], [4, 5], [4, 5, 6], [], [], [0, 1, 2, 3, 8, 9], [0, 1, 2, 3, 4, 5, 6, 7, 8, 9, 10]] 2800 mixT (by kernel_rfl) rfl ?_)
                repeat (first | refine sat_same ?_ | refine sat_impA ?_ | refine sat_need (by (refine ⟨by decide, ?_⟩; show _ < (h.getD n.toNat ob0).items.length; have := cnt15 c26; first | omega | (rw [show Int.toNat 0 = 0 from rfl]; omega))) ?_)
                refine sat_done ?_
                refine exS_normal ?_
                refine ev_R tabT [] 2900 ?_
                refine ev_seq ?_
                refine ev_seq (ev_region tabT [] 3000 rfl ?_)
                repeat (first | refine sat_same ?_ | refine sat_impA ?_ | refine sat_needA ?_)
                refine sat_fn _ (Obj_ok _ _) rfl ?_
                repeat (first | refine sat_same ?_ | refine sat_impA ?_ | refine sat_needA ?_)
                refine sat_done ?_
                refine exS_normal ?_
                refine ev_R tabT [] 3100 ?_
                refine ev_block ?_
                refine ev_R tabT [] 3300 ?_
                refine ev_if (fun c32 => ?_) (fun c32 => ?_)
                · 
                  refine ev_Q tabT [] 3400 ?_
                  refine exBl_normal ?_
                  refine exS_normal ?_
                  refine ev_seq (ev_drawn tabT [] [[], [], [0, 1], [0, 1, 2], [0, 1, 2, 3], [0, 1, 2, 3, 4], [0, 1, 2, 3, 4, 5], [0, 1, 2, 3, 4, 5], [0, 1, 2, 3, 4, 5, 6, 7], [0, 1, 2, 3, 4, 5, 6, 7, 8], [0, 1, 2, 3, 4, 5, 6, 7, 8, 9], [0, 1, 2, 3, 4, 5, 6, 7, 8, 9, 10], [0, 1, 2, 3, 4, 5, 6, 7, 8, 9, 10, 11], [0, 1, 2, 3, 4, 5, 6, 7, 8, 9, 10], [0, 1, 2, 3, 4, 5, 6, 7, 8, 9, 10, 11, 12, 13], [0, 1, 2, 3, 4, 5, 6, 7, 8, 9, 10, 11, 12, 13, 14], [0, 1, 2, 3, 4, 5, 6, 7, 8, 9, 10, 11, 12, 13, 14, 15], [0, 1, 2, 3, 4, 5, 6, 7, 8, 9, 10], [0, 1, 2, 3, 4, 5, 6, 7, 8, 9, 10, 17], [0, 1, 2, 3, 4, 5, 6, 7, 8, 9, 10, 11, 12, 13, 14, 15, 16, 17, 18], [0, 1, 2, 3, 4, 5, 6, 7, 8, 9, 10, 11, 12, 13, 14, 15, 16, 17, 18, 19], [0, 1, 2, 3, 4, 5, 6, 7, 8, 9, 10, 11, 12, 13, 14, 15, 16, 17, 18, 19, 20]] 3600 mixT (by kernel_rfl) rfl ?_)
                  repeat (first | refine sat_same ?_ | refine sat_impA ?_ | refine sat_need (by first | (intro hh; simp only [Bool.and_eq_true] at hh; exact isObj_in hh.2)) ?_)
                  refine sat_fn _ (Obj_ok _ _) rfl ?_
                  repeat (first | refine sat_same ?_ | refine sat_impA ?_ | refine sat_need (by first | (intro hh; simp only [Bool.and_eq_true] at hh; exact isObj_in hh.2)) ?_)
                  refine sat_fnG _ (fun hg8 => IsObject_ok _ _) rfl ?_
                  repeat (first | refine sat_same ?_ | refine sat_impA ?_ | refine sat_need (by first | (intro hh; simp only [Bool.and_eq_true] at hh; exact isObj_in hh.2)) ?_)
                  refine sat_fnG _ (fun hg19 => ContainsI_ok _ _) rfl ?_
                  repeat (first | refine sat_same ?_ | refine sat_impA ?_ | refine sat_need (by first | (intro hh; simp only [Bool.and_eq_true] at hh; exact isObj_in hh.2)) ?_)
                  refine sat_done ?_
                  refine exS_normal ?_
                  refine ev_ret ?_
                  refine exBl_ret ?_
                  refine exS_ret ?_
                  exact FinV.ret rfl (SubP.bool (by rw [linksS, if_neg c3, if_neg c5, if_neg c13, if_neg c14, if_neg c16, if_neg c24, if_pos c26, if_pos c32] <;> rfl))
                · 
                  refine ev_R tabT [] 3500 ?_
                  refine ev_if (fun c34 => ?_) (fun c34 => ?_)
                  · 
                    refine ev_skip ?_
                    refine exBl_normal ?_
                    refine exS_normal ?_
                    refine ev_seq (ev_drawn tabT [] [[], [], [0, 1], [0, 1, 2], [0, 1, 2, 3], [0, 1, 2, 3, 4], [0, 1, 2, 3, 4, 5], [0, 1, 2, 3, 4, 5], [0, 1, 2, 3, 4, 5, 6, 7], [0, 1, 2, 3, 4, 5, 6, 7, 8], [0, 1, 2, 3, 4, 5, 6, 7, 8, 9], [0, 1, 2, 3, 4, 5, 6, 7, 8, 9, 10], [0, 1, 2, 3, 4, 5, 6, 7, 8, 9, 10, 11], [0, 1, 2, 3, 4, 5, 6, 7, 8, 9, 10], [0, 1, 2, 3, 4, 5, 6, 7, 8, 9, 10, 11, 12, 13], [0, 1, 2, 3, 4, 5, 6, 7, 8, 9, 10, 11, 12, 13, 14], [0, 1, 2, 3, 4, 5, 6, 7, 8, 9, 10, 11, 12, 13, 14, 15], [0, 1, 2, 3, 4, 5, 6, 7, 8, 9, 10], [0, 1, 2, 3, 4, 5, 6, 7, 8, 9, 10, 17], [0, 1, 2, 3, 4, 5, 6, 7, 8, 9, 10, 11, 12, 13, 14, 15, 16, 17, 18], [0, 1, 2, 3, 4, 5, 6, 7, 8, 9, 10, 11, 12, 13, 14, 15, 16, 17, 18, 19], [0, 1, 2, 3, 4, 5, 6, 7, 8, 9, 10, 11, 12, 13, 14, 15, 16, 17, 18, 19, 20]] 3600 mixT (by kernel_rfl) rfl ?_)
                    repeat (first | refine sat_same ?_ | refine sat_impA ?_ | refine sat_need (by first | (intro hh; simp only [Bool.and_eq_true] at hh; exact isObj_in hh.2)) ?_)
                    refine sat_fn _ (Obj_ok _ _) rfl ?_
                    repeat (first | refine sat_same ?_ | refine sat_impA ?_ | refine sat_need (by first | (intro hh; simp only [Bool.and_eq_true] at hh; exact isObj_in hh.2)) ?_)
                    refine sat_fnG _ (fun hg8 => IsObject_ok _ _) rfl ?_
                    repeat (first | refine sat_same ?_ | refine sat_impA ?_ | refine sat_need (by first | (intro hh; simp only [Bool.and_eq_true] at hh; exact isObj_in hh.2)) ?_)
                    refine sat_fnG _ (fun hg19 => ContainsI_ok _ _) rfl ?_
                    repeat (first | refine sat_same ?_ | refine sat_impA ?_ | refine sat_need (by first | (intro hh; simp only [Bool.and_eq_true] at hh; exact isObj_in hh.2)) ?_)
                    refine sat_done ?_
                    refine exS_normal ?_
                    refine ev_ret ?_
                    refine exBl_ret ?_
                    refine exS_ret ?_
                    exact FinV.ret rfl (SubP.bool (by rw [linksS, if_neg c3, if_neg c5, if_neg c13, if_neg c14, if_neg c16, if_neg c24, if_pos c26, if_neg c32, if_pos c34] <;> rfl))
                  · 
                    refine ev_R tabT [] 3600 ?_
                    refine ev_ret ?_
                    refine exBl_ret ?_
                    refine exS_ret ?_
                    refine exBl_ret ?_
                    refine exS_ret ?_
                    exact FinV.ret rfl (SubP.bool (by rw [linksS, if_neg c3, if_neg c5, if_neg c13, if_neg c14, if_neg c16, if_neg c24, if_pos c26, if_neg c32, if_neg c34] <;> rfl))
              · 
                refine ev_R tabT [] 3700 ?_
                refine ev_if (fun c36 => ?_) (fun c36 => ?_)
                · 
                  refine ev_seq (ev_drawn tabT [] [[], [], [1], [1, 2], [1, 2, 3], [0, 1, 2, 3, 4], [], [0, 1, 2, 3, 4, 5, 6]] 3800 mixT (by kernel_rfl) rfl ?_)
                  repeat (first | refine sat_same ?_ | refine sat_impA ?_ | refine sat_need (by (refine ⟨by decide, ?_⟩; show _ < (h.getD n.toNat ob0).items.length; have := cnt16 c36; omega)) ?_)
                  refine sat_fn _ (Obj_ok _ _) rfl ?_
                  repeat (first | refine sat_same ?_ | refine sat_impA ?_ | refine sat_need (by (refine ⟨by decide, ?_⟩; show _ < (h.getD n.toNat ob0).items.length; have := cnt16 c36; omega)) ?_)
                  refine sat_done ?_
                  refine exS_normal ?_
                  refine ev_R tabT [] 3900 ?_
                  refine ev_block ?_
                  refine ev_seq ?_
                  refine ev_R tabT [] 4100 ?_
                  refine ev_if (fun c40 => ?_) (fun c40 => ?_)
                  · 
                    refine ev_skip ?_
                    refine exS_normal ?_
                    refine ev_if (fun c40x => ?_) (fun c40x => ?_)
                    · 
                      refine ev_seq (ev_region tabT [] 4300 rfl ?_)
                      repeat (first | refine sat_same ?_ | refine sat_impA ?_ | refine sat_need (by first | (refine ⟨by decide, ?_⟩; show _ < (h.getD n.toNat ob0).items.length; have := cnt16 c36; omega) | (intro _; (refine ⟨by decide, ?_⟩; show _ < (h.getD n.toNat ob0).items.length; have := cnt16 c36; omega))) ?_)
                      refine sat_done ?_
                      refine exS_normal ?_
                      refine ev_ret ?_
                      refine exBl_ret ?_
                      refine exBl_ret ?_
                      refine exS_ret ?_
                      exact FinV.ret rfl (SubP.bool (by rw [linksS, if_neg c3, if_neg c5, if_neg c13, if_neg c14, if_neg c16, if_neg c24, if_neg c26, if_pos c36, if_pos c40] <;> rfl))
                    · 
                      simp_all
                  · 
                    refine ev_Q tabT [] 4200 ?_
                    refine exS_normal ?_
                    refine ev_if (fun c41 => ?_) (fun c41 => ?_)
                    · 
                      refine ev_seq (ev_region tabT [] 4300 rfl ?_)
                      repeat (first | refine sat_same ?_ | refine sat_impA ?_ | refine sat_need (by first | (refine ⟨by decide, ?_⟩; show _ < (h.getD n.toNat ob0).items.length; have := cnt16 c36; omega) | (intro _; (refine ⟨by decide, ?_⟩; show _ < (h.getD n.toNat ob0).items.length; have := cnt16 c36; omega))) ?_)
                      refine sat_done ?_
                      refine exS_normal ?_
                      refine ev_ret ?_
                      refine exBl_ret ?_
                      refine exBl_ret ?_
                      refine exS_ret ?_
                      exact FinV.ret rfl (SubP.bool (by rw [linksS, if_neg c3, if_neg c5, if_neg c13, if_neg c14, if_neg c16, if_neg c24, if_neg c26, if_pos c36, if_neg c40, if_pos c41] <;> rfl))
                    · 
                      refine ev_R tabT [] 4400 ?_
                      refine ev_if (fun c43 => ?_) (fun c43 => ?_)
                      · 
                        refine ev_seq (ev_region tabT [] 4500 rfl ?_)
                        repeat (first | refine sat_same ?_ | refine sat_impA ?_ | refine sat_need (by first | (refine ⟨by decide, ?_⟩; show _ < (h.getD n.toNat ob0).items.length; have := cnt16 c36; omega) | (intro _; (refine ⟨by decide, ?_⟩; show _ < (h.getD n.toNat ob0).items.length; have := cnt16 c36; omega))) ?_)
                        refine sat_done ?_
                        refine exS_normal ?_
                        refine ev_ret ?_
                        refine exBl_ret ?_
                        refine exBl_ret ?_
                        refine exS_ret ?_
                        exact FinV.ret rfl (SubP.bool (by rw [linksS, if_neg c3, if_neg c5, if_neg c13, if_neg c14, if_neg c16, if_neg c24, if_neg c26, if_pos c36, if_neg c40, if_neg c41, if_pos c43] <;> rfl))
                      · 
                        refine ev_seq (ev_region tabT [] 4500 rfl ?_)
                        repeat (first | refine sat_same ?_ | refine sat_impA ?_ | refine sat_need (by first | (refine ⟨by decide, ?_⟩; show _ < (h.getD n.toNat ob0).items.length; have := cnt16 c36; omega) | (intro _; (refine ⟨by decide, ?_⟩; show _ < (h.getD n.toNat ob0).items.length; have := cnt16 c36; omega))) ?_)
                        refine sat_done ?_
                        refine exS_normal ?_
                        refine ev_ret ?_
                        refine exBl_ret ?_
                        refine exBl_ret ?_
                        refine exS_ret ?_
                        exact FinV.ret rfl (SubP.bool (by rw [linksS, if_neg c3, if_neg c5, if_neg c13, if_neg c14, if_neg c16, if_neg c24, if_neg c26, if_pos c36, if_neg c40, if_neg c41, if_neg c43] <;> rfl))
                · 
                  refine ev_R tabT [] 4600 ?_
                  refine ev_if (fun c45 => ?_) (fun c45 => ?_)
                  · 
                    refine ev_R tabT [] 4700 ?_
                    refine ev_if (fun c46 => ?_) (fun c46 => ?_)
                    · 
                      refine ev_seq (ev_region tabT [] 4800 rfl ?_)
                      repeat (first | refine sat_same ?_ | refine sat_impA ?_ | refine sat_need (by first | exact ini (by omega) (by omega) | (have h1 := hV.weak c45 (by omega); rw [wrap_pred c46 (by omega)] at h1; exact isObj_in h1)) ?_)
                      refine sat_done ?_
                      refine exS_normal ?_
                      refine ev_R tabT [] 4900 ?_
                      refine ev_ret ?_
                      refine exBl_ret ?_
                      refine exS_ret ?_
                      exact FinV.ret rfl (SubP.bool (by rw [linksS, if_neg c3, if_neg c5, if_neg c13, if_neg c14, if_neg c16, if_neg c24, if_neg c26, if_neg c36, if_pos c45, if_pos c46] <;> rfl))
                    · 
                      refine ev_skip ?_
                      refine exBl_normal ?_
                      refine exS_normal ?_
                      refine ev_R tabT [] 5400 ?_
                      refine ev_ret ?_
                      exact FinV.ret rfl (SubP.bool (by rw [linksS, if_neg c3, if_neg c5, if_neg c13, if_neg c14, if_neg c16, if_neg c24, if_neg c26, if_neg c36, if_pos c45, if_neg (Int.not_lt.2 c46)] <;> rfl))
                  · 
                    refine ev_R tabT [] 5000 ?_
                    refine ev_if (fun c49 => ?_) (fun c49 => ?_)
                    · 
                      refine ev_seq (ev_drawn tabT [] [[], [], [1], [1, 2], [1, 2, 3], [0, 1, 2, 3, 4], [0, 1, 2, 3, 4, 5], [0, 1, 2, 3, 4, 5, 6], [0, 1, 2, 3, 4, 5, 6, 7]] 5100 mixT (by kernel_rfl) rfl ?_)
                      repeat (first | refine sat_same ?_ | refine sat_impA ?_ | refine sat_need (by (refine ⟨by decide, ?_⟩; show _ < (h.getD n.toNat ob0).items.length; have := cnt19 c49; omega)) ?_)
                      refine sat_fn _ (Obj_ok _ _) rfl ?_
                      repeat (first | refine sat_same ?_ | refine sat_impA ?_ | refine sat_need (by (refine ⟨by decide, ?_⟩; show _ < (h.getD n.toNat ob0).items.length; have := cnt19 c49; omega)) ?_)
                      refine sat_done ?_
                      refine exS_normal ?_
                      refine ev_ret ?_
                      refine exBl_ret ?_
                      refine exS_ret ?_
                      exact FinV.ret rfl (SubP.bool (by rw [linksS, if_neg c3, if_neg c5, if_neg c13, if_neg c14, if_neg c16, if_neg c24, if_neg c26, if_neg c36, if_neg c45, if_pos c49] <;> rfl))
                    · 
                      refine ev_R tabT [] 5200 ?_
                      refine ev_if (fun c51 => ?_) (fun c51 => ?_)
                      · 
                        refine ev_seq (ev_region tabT [] 5300 rfl ?_)
                        repeat (first | refine sat_same ?_ | refine sat_impA ?_ | refine sat_need (by first | (refine ⟨by decide, ?_⟩; show _ < (h.getD n.toNat ob0).items.length; have := cnt20 c51; omega) | (intro _; (refine ⟨by decide, ?_⟩; show _ < (h.getD n.toNat ob0).items.length; have := cnt20 c51; omega))) ?_)
                        refine sat_done ?_
                        refine exS_normal ?_
                        refine ev_ret ?_
                        refine exBl_ret ?_
                        refine exS_ret ?_
                        exact FinV.ret rfl (SubP.bool (by rw [linksS, if_neg c3, if_neg c5, if_neg c13, if_neg c14, if_neg c16, if_neg c24, if_neg c26, if_neg c36, if_neg c45, if_neg c49, if_pos c51] <;> rfl))
                      · 
                        refine ev_skip ?_
                        refine exBl_normal ?_
                        refine exS_normal ?_
                        refine ev_R tabT [] 5400 ?_
                        refine ev_ret ?_
                        exact FinV.ret rfl (SubP.bool (by rw [linksS, if_neg c3, if_neg c5, if_neg c13, if_neg c14, if_neg c16, if_neg c24, if_neg c26, if_neg c36, if_neg c45, if_neg c49, if_neg c51] <;> rfl))

end Go.Proofs.YtonogeiopicibaaGreatDoor
