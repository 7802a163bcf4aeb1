/- Part 27 of the proof. -/
import Derived.Test.YtfkaepjlmgolhaaGreatDoorM26

/- Walks by the evaluator: Matches, Caught; the law. -/
namespace Go.Proofs.YtfkaepjlmgolhaaGreatDoor
open Go.RowKit

theorem wl_obj {h : List Ob} {w : Vl} (g : Uh h) (hw : w.k = 6 → isObj h w.r = true) {u : Vl} (hu : u ∈ wlS h w) (hk : u.k = 6) : isObj h u.r = true := by
  unfold wlS at hu
  split at hu
  · rename_i h1
    have h2 := objS_of (h := h) (v := w) (by rw [h1]; decide)
    rw [h2.2.2] at hu
    exact g.items (isObj_in h2.2.1) hu hk
  · rw [List.mem_singleton] at hu; subst hu; exact hw hk
theorem wl_len {h : List Ob} {w : Vl} (hh : HpIn h) : (wlS h w).length ≤ 2000000 := by
  unfold wlS
  split
  · rename_i h1
    have h2 := objS_of (h := h) (v := w) (by rw [h1]; decide)
    rw [h2.2.2]
    exact (hh.at w.r).il
  · show 1 ≤ 2000000; omega
section
variable {h : List Ob} {v : Vl} {b : Bool} {l : List Vl} {k : Nat}
theorem mt_bad (hk : k < l.length) (h7 : ¬ excC h (l.getD k vl0) = true) : mtS h v b (l.drop k) = raS 32 mg1 := by rw [drop_getD hk vl0, mtS, if_neg h7]
theorem mt_grp (hk : k < l.length) (h7 : excC h (l.getD k vl0) = true) (h9 : (b && hasB (obAt h (l.getD k vl0).r).order 48) = true) : mtS h v b (l.drop k) = raS 32 mg2 := by rw [drop_getD hk vl0, mtS, if_pos h7, if_pos h9]
theorem mt_yes (hk : k < l.length) (h7 : excC h (l.getD k vl0) = true) (h9 : ¬ (b && hasB (obAt h (l.getD k vl0).r).order 48) = true) (h11 : isaS h v (l.getD k vl0).r = true) : mtS h v b (l.drop k) = vlS (boV true) := by rw [drop_getD hk vl0, mtS, if_pos h7, if_neg h9, if_pos h11]
theorem mt_nxt (hk : k < l.length) (h7 : excC h (l.getD k vl0) = true) (h9 : ¬ (b && hasB (obAt h (l.getD k vl0).r).order 48) = true) (h11 : ¬ isaS h v (l.getD k vl0).r = true) : mtS h v b (l.drop k) = mtS h v b (l.drop (k + 1)) := by rw [drop_getD hk vl0, mtS, if_pos h7, if_neg h9, if_neg h11]
end

set_option maxHeartbeats 1000000 in
theorem Matches_ok (h : List Ob) (v w : Vl) (b : Bool) (hh : HpIn h) (g : Uh h) (hv : Rf h v) (hw : w.k = 6 → isObj h w.r = true) : Fn Tryz.prog 12 [hpD h, .agg (vlD v), .agg (vlD w), .v (.bool b)] (.agg (stD (mtS h v b (wlS h w)))) := by
  refine fn_ev tabT Tryz.func12 rfl rfl rfl rfl rfl rfl ?_
  intro w0 s0 mx
  refine ev_seq (ev_region tabT [] 100 rfl ?_)
  repeat (first | refine sat_same ?_ | refine sat_imp (by first | exact fun hh => hh | (intro hh; simp at hh ⊢; first | omega | exact hh | simp_all) | (simp_all; done)) ?_ | refine sat_need (by first | exact trivial | omega | exact ini (by omega) (by omega) | (intro hh; simp at hh; exact ini (by omega) (by omega)) | (intro hh; simp at hh ⊢; omega) | (simp at *; omega) | (simp_all; done)) ?_)
  refine sat_done ?_
  refine exS_normal ?_
  refine ev_seq (ev_region tabT [] 200 rfl ?_)
  repeat (first | refine sat_same ?_ | refine sat_imp (by first | exact fun hh => hh | (intro hh; simp at hh ⊢; first | omega | exact hh | simp_all) | (simp_all; done)) ?_ | refine sat_need (by first | exact trivial | omega | exact ini (by omega) (by omega) | (intro hh; simp at hh; exact ini (by omega) (by omega)) | (intro hh; simp at hh ⊢; omega) | (simp at *; omega) | (simp_all; done)) ?_)
  refine sat_done ?_
  refine exS_normal ?_
  refine ev_seq ?_
  refine ev_seq (ev_region tabT [] 300 rfl ?_)
  repeat (first | refine sat_same ?_ | refine sat_imp (by first | exact fun hh => hh | (intro hh; simp at hh ⊢; first | omega | exact hh | simp_all) | (simp_all; done)) ?_ | refine sat_need (by first | (intro hh; simp only [Bool.and_eq_true, decide_eq_true_eq] at hh; first | exact isObj_in (hw hh) | exact isObj_in (hw hh.1)) | exact isObj_in (hw (by simp only [Bool.and_eq_true, decide_eq_true_eq] at c2; exact c2.1)) | rfl) ?_)
  refine sat_done ?_
  refine exS_normal ?_
  refine ev_cond rfl (fun c2 => ?_) (fun c2 => ?_)
  · 
    refine ev_region tabT [] 400 rfl ?_
    repeat (first | refine sat_same ?_ | refine sat_imp (by first | exact fun hh => hh | (intro hh; simp at hh ⊢; first | omega | exact hh | simp_all) | (simp_all; done)) ?_ | refine sat_need (by first | (intro hh; simp only [Bool.and_eq_true, decide_eq_true_eq] at hh; first | exact isObj_in (hw hh) | exact isObj_in (hw hh.1)) | exact isObj_in (hw (by simp only [Bool.and_eq_true, decide_eq_true_eq] at c2; exact c2.1)) | rfl) ?_)
    refine sat_done ?_
    refine exS_normal ?_
    refine ev_seq ?_
    refine ev_seq (ev_region tabT [] 500 rfl ?_)
    repeat (first | refine sat_same ?_ | refine sat_imp (by first | exact fun hh => hh | (intro hh; simp at hh ⊢; first | omega | exact hh | simp_all) | (simp_all; done)) ?_ | refine sat_need (by first | exact trivial | omega | exact ini (by omega) (by omega) | (intro hh; simp at hh; exact ini (by omega) (by omega)) | (intro hh; simp at hh ⊢; omega) | (simp at *; omega) | (simp_all; done)) ?_)
    refine sat_done ?_
    refine exS_normal ?_
    refine ev_tell [3, 4, 5, 8] [0, 1, 3] 510 [(34, .sl 7 (wlS h w) vlD vl0), (35, .v (.int .i64 (wlS h w).length)), (36, .v (.int .i64 0))] [] ?_
    refine ⟨⟨⟨(by first | exact Sub.of_eq (by rw [wlS_eq hw c2]) | exact Sub.slrSl (by rw [wlS_ne hw c2]; rfl)), Sub.int (by first | rw [wlS_eq hw c2] | (rw [wlS_ne hw c2]; rfl)), Sub.refl _, by repeat (first | exact trivial | exact Sub.refl _ | refine ⟨?_, ?_⟩)⟩, (by repeat (first | exact trivial | exact SubO.same rfl | refine ⟨?_, ?_⟩)), rfl, rfl⟩, ?_⟩
    refine ev_block ?_
    refine ev_loopK (ι := Sf (fun l => mtS h v b l) (wlS h w)) [3, 4, 5, 8, 34, 35] [0, 1, 3] 550 (fun x => [(36, .v (.int .i64 x.k))]) (fun _ => []) (fun x => (wlS h w).length - x.k) ⟨0, Nat.zero_le _, rfl⟩ ?_
    refine ⟨⟨(by first | exact trivial | (repeat (first | exact trivial | exact Sub.refl _ | refine ⟨?_, ?_⟩ | exact Sub.int (by first | rfl | omega | (push_cast; omega)) | exact Sub.nilSl | exact Sub.own rfl | exact Sub.slrSl rfl | exact Sub.ownSl (List.map_append).symm | exact Sub.ownSl rfl))), (by repeat (first | exact trivial | exact SubO.same rfl | refine ⟨?_, ?_⟩)), rfl, rfl⟩, fun x => ?_⟩
    have hk := x.le
    have hwl := wl_len (w := w) hh
    refine ev_seq (ev_region tabT [] 600 rfl ?_)
    repeat (first | refine sat_same ?_ | refine sat_imp (by first | exact fun hh => hh | (intro hh; simp at hh ⊢; first | omega | exact hh | simp_all) | (simp_all; done)) ?_ | refine sat_need (by first | exact trivial | omega | exact ini (by omega) (by omega) | (intro hh; simp at hh; exact ini (by omega) (by omega)) | (intro hh; simp at hh ⊢; omega) | (simp at *; omega) | (simp_all; done)) ?_)
    refine sat_done ?_
    refine exS_normal ?_
    refine ev_seq ?_
    refine ev_cond rfl (fun c5 => ?_) (fun c5 => ?_)
    · try simp only [decide_eq_true_eq, decide_eq_false_iff_not, Bool.not_eq_true', Bool.not_eq_false', Bool.and_eq_true, Bool.or_eq_true, Bool.or_eq_false_iff, gt_iff_lt, Int.not_lt, Bool.not_true, Bool.not_false, Int.ofNat_lt, Int.ofNat_le] at c5
      refine ev_skip ?_
      refine exS_normal ?_
      refine ev_seq ?_
      refine ev_block ?_
      refine ev_seq (ev_region tabT [] 700 rfl ?_)
      repeat (first | refine sat_same ?_ | refine sat_imp (by first | exact fun hh => hh | (intro hh; simp at hh ⊢; first | omega | exact hh | simp_all) | (simp_all; done)) ?_ | refine sat_need (by first | exact trivial | omega | exact ini (by omega) (by omega) | (intro hh; simp at hh; exact ini (by omega) (by omega)) | (intro hh; simp at hh ⊢; omega) | (simp at *; omega) | (simp_all; done)) ?_)
      refine sat_done ?_
      refine exS_normal ?_
      refine ev_block ?_
      refine ev_seq (ev_region tabT [] 800 rfl ?_)
      repeat (first | refine sat_same ?_ | refine sat_imp (by first | exact fun hh => hh | (intro hh; simp at hh ⊢; first | omega | exact hh | simp_all) | (simp_all; done)) ?_ | refine sat_need (by first | exact trivial | omega | exact ini (by omega) (by omega) | (intro hh; simp at hh; exact ini (by omega) (by omega)) | (intro hh; simp at hh ⊢; omega) | (simp at *; omega) | (simp_all; done)) ?_)
      refine sat_fn _ (exceptionClass_ok h ((wlS h w).getD (x.k : Int).toNat vl0) (fun hk => wl_obj g hw (mem_getD c5 vl0) hk)) rfl ?_
      repeat (first | refine sat_same ?_ | refine sat_imp (by first | exact fun hh => hh | (intro hh; simp at hh ⊢; first | omega | exact hh | simp_all) | (simp_all; done)) ?_ | refine sat_need (by first | exact trivial | omega | exact ini (by omega) (by omega) | (intro hh; simp at hh; exact ini (by omega) (by omega)) | (intro hh; simp at hh ⊢; omega) | (simp at *; omega) | (simp_all; done)) ?_)
      refine sat_done ?_
      refine exS_normal ?_
      refine ev_cond rfl (fun c7 => ?_) (fun c7 => ?_)
      · replace c7 : ¬ excC h ((wlS h w).getD (x.k : Int).toNat vl0) = true := by simpa using c7
        refine ev_seq (ev_region tabT [] 900 rfl ?_)
        repeat (first | refine sat_same ?_ | refine sat_imp (by first | exact fun hh => hh | (intro hh; simp at hh ⊢; first | omega | exact hh | simp_all) | (simp_all; done)) ?_ | refine sat_need (by first | exact trivial | omega | exact ini (by omega) (by omega) | (intro hh; simp at hh; exact ini (by omega) (by omega)) | (intro hh; simp at hh ⊢; omega) | (simp at *; omega) | (simp_all; done)) ?_)
        refine sat_fn _ (raise_ok _ _) rfl ?_
        repeat (first | refine sat_same ?_ | refine sat_imp (by first | exact fun hh => hh | (intro hh; simp at hh ⊢; first | omega | exact hh | simp_all) | (simp_all; done)) ?_ | refine sat_need (by first | exact trivial | omega | exact ini (by omega) (by omega) | (intro hh; simp at hh; exact ini (by omega) (by omega)) | (intro hh; simp at hh ⊢; omega) | (simp at *; omega) | (simp_all; done)) ?_)
        refine sat_done ?_
        refine exS_normal ?_
        refine ev_ret ?_
        refine exBl_ret ?_
        refine exBl_ret ?_
        refine exS_ret ?_
        refine exL_ret ?_
        refine exBl_ret ?_
        refine exS_ret ?_
        exact FinV.ret rfl (SubP.of_eq (congrArg (fun s => D.agg (stD s)) (show _ = mtS h v b (wlS h w) from Eq.symm (x.eq.symm.trans (mt_bad c5 c7)))))
      · replace c7 : excC h ((wlS h w).getD (x.k : Int).toNat vl0) = true := by simpa using c7
        refine ev_seq (ev_region tabT [] 1000 rfl ?_)
        repeat (first | refine sat_same ?_ | refine sat_imp (by first | exact fun hh => hh | (intro hh; simp at hh ⊢; first | omega | exact hh | simp_all) | (simp_all; done)) ?_ | refine sat_need (by first | exact trivial | omega | exact ini (by omega) (by omega) | (intro hh; simp at hh; exact ini (by omega) (by omega)) | (intro hh; simp at hh ⊢; omega) | (simp at *; omega) | (simp_all; done)) ?_)
        refine sat_fnG _ (fun hg5 => Derives_ok h ((wlS h w).getD (x.k : Int).toNat vl0).r 48 (excC_in c7)) rfl ?_
        repeat (first | refine sat_same ?_ | refine sat_imp (by first | exact fun hh => hh | (intro hh; simp at hh ⊢; first | omega | exact hh | simp_all) | (simp_all; done)) ?_ | refine sat_need (by first | exact trivial | omega | exact ini (by omega) (by omega) | (intro hh; simp at hh; exact ini (by omega) (by omega)) | (intro hh; simp at hh ⊢; omega) | (simp at *; omega) | (simp_all; done)) ?_)
        refine sat_done ?_
        refine exS_normal ?_
        refine ev_cond rfl (fun c9 => ?_) (fun c9 => ?_)
        · 
          refine ev_seq (ev_region tabT [] 1100 rfl ?_)
          repeat (first | refine sat_same ?_ | refine sat_imp (by first | exact fun hh => hh | (intro hh; simp at hh ⊢; first | omega | exact hh | simp_all) | (simp_all; done)) ?_ | refine sat_need (by first | exact trivial | omega | exact ini (by omega) (by omega) | (intro hh; simp at hh; exact ini (by omega) (by omega)) | (intro hh; simp at hh ⊢; omega) | (simp at *; omega) | (simp_all; done)) ?_)
          refine sat_fn _ (raise_ok _ _) rfl ?_
          repeat (first | refine sat_same ?_ | refine sat_imp (by first | exact fun hh => hh | (intro hh; simp at hh ⊢; first | omega | exact hh | simp_all) | (simp_all; done)) ?_ | refine sat_need (by first | exact trivial | omega | exact ini (by omega) (by omega) | (intro hh; simp at hh; exact ini (by omega) (by omega)) | (intro hh; simp at hh ⊢; omega) | (simp at *; omega) | (simp_all; done)) ?_)
          refine sat_done ?_
          refine exS_normal ?_
          refine ev_ret ?_
          refine exBl_ret ?_
          refine exBl_ret ?_
          refine exS_ret ?_
          refine exL_ret ?_
          refine exBl_ret ?_
          refine exS_ret ?_
          exact FinV.ret rfl (SubP.of_eq (congrArg (fun s => D.agg (stD s)) (show _ = mtS h v b (wlS h w) from Eq.symm (x.eq.symm.trans (mt_grp c5 c7 c9)))))
        · replace c9 : ¬ (b && hasB (obAt h ((wlS h w).getD (x.k : Int).toNat vl0).r).order 48) = true := by rw [Bool.not_eq_true]; exact c9
          refine ev_seq (ev_region tabT [] 1200 rfl ?_)
          repeat (first | refine sat_same ?_ | refine sat_imp (by first | exact fun hh => hh | (intro hh; simp at hh ⊢; first | omega | exact hh | simp_all) | (simp_all; done)) ?_ | refine sat_need (by first | exact trivial | omega | exact ini (by omega) (by omega) | (intro hh; simp at hh; exact ini (by omega) (by omega)) | (intro hh; simp at hh ⊢; omega) | (simp at *; omega) | (simp_all; done)) ?_)
          refine sat_fn _ (RaisingIs_ok h v ((wlS h w).getD (x.k : Int).toNat vl0).r hv) rfl ?_
          repeat (first | refine sat_same ?_ | refine sat_imp (by first | exact fun hh => hh | (intro hh; simp at hh ⊢; first | omega | exact hh | simp_all) | (simp_all; done)) ?_ | refine sat_need (by first | exact trivial | omega | exact ini (by omega) (by omega) | (intro hh; simp at hh; exact ini (by omega) (by omega)) | (intro hh; simp at hh ⊢; omega) | (simp at *; omega) | (simp_all; done)) ?_)
          refine sat_done ?_
          refine exS_normal ?_
          refine ev_cond rfl (fun c11 => ?_) (fun c11 => ?_)
          · 
            refine ev_seq (ev_region tabT [] 1300 rfl ?_)
            repeat (first | refine sat_same ?_ | refine sat_imp (by first | exact fun hh => hh | (intro hh; simp at hh ⊢; first | omega | exact hh | simp_all) | (simp_all; done)) ?_ | refine sat_need (by first | exact trivial | omega | exact ini (by omega) (by omega) | (intro hh; simp at hh; exact ini (by omega) (by omega)) | (intro hh; simp at hh ⊢; omega) | (simp at *; omega) | (simp_all; done)) ?_)
            refine sat_fn _ (heapBool_ok _) rfl ?_
            repeat (first | refine sat_same ?_ | refine sat_imp (by first | exact fun hh => hh | (intro hh; simp at hh ⊢; first | omega | exact hh | simp_all) | (simp_all; done)) ?_ | refine sat_need (by first | exact trivial | omega | exact ini (by omega) (by omega) | (intro hh; simp at hh; exact ini (by omega) (by omega)) | (intro hh; simp at hh ⊢; omega) | (simp at *; omega) | (simp_all; done)) ?_)
            refine sat_fn _ (value_ok _) rfl ?_
            repeat (first | refine sat_same ?_ | refine sat_imp (by first | exact fun hh => hh | (intro hh; simp at hh ⊢; first | omega | exact hh | simp_all) | (simp_all; done)) ?_ | refine sat_need (by first | exact trivial | omega | exact ini (by omega) (by omega) | (intro hh; simp at hh; exact ini (by omega) (by omega)) | (intro hh; simp at hh ⊢; omega) | (simp at *; omega) | (simp_all; done)) ?_)
            refine sat_done ?_
            refine exS_normal ?_
            refine ev_ret ?_
            refine exBl_ret ?_
            refine exBl_ret ?_
            refine exS_ret ?_
            refine exL_ret ?_
            refine exBl_ret ?_
            refine exS_ret ?_
            exact FinV.ret rfl (SubP.of_eq (congrArg (fun s => D.agg (stD s)) (show _ = mtS h v b (wlS h w) from Eq.symm (x.eq.symm.trans (mt_yes c5 c7 c9 c11)))))
          · replace c11 : ¬ isaS h v ((wlS h w).getD (x.k : Int).toNat vl0).r = true := by rw [Bool.not_eq_true]; exact c11
            refine ev_skip ?_
            refine exBl_normal ?_
            refine exBl_normal ?_
            refine exS_normal ?_
            refine ev_region tabT [] 1400 rfl ?_
            repeat (first | refine sat_same ?_ | refine sat_imp (by first | exact fun hh => hh | (intro hh; simp at hh ⊢; first | omega | exact hh | simp_all) | (simp_all; done)) ?_ | refine sat_need (by first | exact trivial | omega | exact ini (by omega) (by omega) | (intro hh; simp at hh; exact ini (by omega) (by omega)) | (intro hh; simp at hh ⊢; omega) | (simp at *; omega) | (simp_all; done)) ?_)
            refine sat_done ?_
            exact exL_normal (x.next c5 (mt_nxt c5 c7 c9 c11)) ⟨(by first | exact trivial | (repeat (first | exact trivial | exact Sub.refl _ | refine ⟨?_, ?_⟩ | exact Sub.int (by first | rfl | omega | (push_cast; omega)) | exact Sub.nilSl | exact Sub.own rfl | exact Sub.slrSl rfl | exact Sub.ownSl (List.map_append).symm | exact Sub.ownSl rfl))), (by repeat (first | exact trivial | exact SubO.same rfl | refine ⟨?_, ?_⟩)), rfl, rfl⟩ (by show (wlS h w).length - (x.k + 1) < (wlS h w).length - x.k; omega)
    · try simp only [decide_eq_true_eq, decide_eq_false_iff_not, Bool.not_eq_true', Bool.not_eq_false', Bool.and_eq_true, Bool.or_eq_true, Bool.or_eq_false_iff, gt_iff_lt, Int.not_lt, Bool.not_true, Bool.not_false, Int.ofNat_lt, Int.ofNat_le] at c5
      refine ev_exit ?_
      refine exS_exit ?_
      refine exL_exit ?_
      refine exBl_same ?_
      refine exS_normal ?_
      refine ev_seq (ev_region tabT [] 1500 rfl ?_)
      repeat (first | refine sat_same ?_ | refine sat_imp (by first | exact fun hh => hh | (intro hh; simp at hh ⊢; first | omega | exact hh | simp_all) | (simp_all; done)) ?_ | refine sat_need (by first | exact trivial | omega | exact ini (by omega) (by omega) | (intro hh; simp at hh; exact ini (by omega) (by omega)) | (intro hh; simp at hh ⊢; omega) | (simp at *; omega) | (simp_all; done)) ?_)
      refine sat_fn _ (heapBool_ok _) rfl ?_
      repeat (first | refine sat_same ?_ | refine sat_imp (by first | exact fun hh => hh | (intro hh; simp at hh ⊢; first | omega | exact hh | simp_all) | (simp_all; done)) ?_ | refine sat_need (by first | exact trivial | omega | exact ini (by omega) (by omega) | (intro hh; simp at hh; exact ini (by omega) (by omega)) | (intro hh; simp at hh ⊢; omega) | (simp at *; omega) | (simp_all; done)) ?_)
      refine sat_fn _ (value_ok _) rfl ?_
      repeat (first | refine sat_same ?_ | refine sat_imp (by first | exact fun hh => hh | (intro hh; simp at hh ⊢; first | omega | exact hh | simp_all) | (simp_all; done)) ?_ | refine sat_need (by first | exact trivial | omega | exact ini (by omega) (by omega) | (intro hh; simp at hh; exact ini (by omega) (by omega)) | (intro hh; simp at hh ⊢; omega) | (simp at *; omega) | (simp_all; done)) ?_)
      refine sat_done ?_
      refine exS_normal ?_
      refine ev_ret ?_
      exact FinV.ret rfl (SubP.of_eq (congrArg (fun s => D.agg (stD s)) (show _ = mtS h v b (wlS h w) from Eq.symm (x.end c5))))
  · 
    refine ev_skip ?_
    refine exS_normal ?_
    refine ev_seq ?_
    refine ev_seq (ev_region tabT [] 500 rfl ?_)
    repeat (first | refine sat_same ?_ | refine sat_imp (by first | exact fun hh => hh | (intro hh; simp at hh ⊢; first | omega | exact hh | simp_all) | (simp_all; done)) ?_ | refine sat_need (by first | exact trivial | omega | exact ini (by omega) (by omega) | (intro hh; simp at hh; exact ini (by omega) (by omega)) | (intro hh; simp at hh ⊢; omega) | (simp at *; omega) | (simp_all; done)) ?_)
    refine sat_done ?_
    refine exS_normal ?_
    refine ev_tell [3, 4, 5, 8] [0, 1, 3] 510 [(34, .sl 7 (wlS h w) vlD vl0), (35, .v (.int .i64 (wlS h w).length)), (36, .v (.int .i64 0))] [] ?_
    refine ⟨⟨⟨(by first | exact Sub.of_eq (by rw [wlS_eq hw c2]) | exact Sub.slrSl (by rw [wlS_ne hw c2]; rfl)), Sub.int (by first | rw [wlS_eq hw c2] | (rw [wlS_ne hw c2]; rfl)), Sub.refl _, by repeat (first | exact trivial | exact Sub.refl _ | refine ⟨?_, ?_⟩)⟩, (by repeat (first | exact trivial | exact SubO.same rfl | refine ⟨?_, ?_⟩)), rfl, rfl⟩, ?_⟩
    refine ev_block ?_
    refine ev_loopK (ι := Sf (fun l => mtS h v b l) (wlS h w)) [3, 4, 5, 8, 34, 35] [0, 1, 3] 550 (fun x => [(36, .v (.int .i64 x.k))]) (fun _ => []) (fun x => (wlS h w).length - x.k) ⟨0, Nat.zero_le _, rfl⟩ ?_
    refine ⟨⟨(by first | exact trivial | (repeat (first | exact trivial | exact Sub.refl _ | refine ⟨?_, ?_⟩ | exact Sub.int (by first | rfl | omega | (push_cast; omega)) | exact Sub.nilSl | exact Sub.own rfl | exact Sub.slrSl rfl | exact Sub.ownSl (List.map_append).symm | exact Sub.ownSl rfl))), (by repeat (first | exact trivial | exact SubO.same rfl | refine ⟨?_, ?_⟩)), rfl, rfl⟩, fun x => ?_⟩
    have hk := x.le
    have hwl := wl_len (w := w) hh
    refine ev_seq (ev_region tabT [] 600 rfl ?_)
    repeat (first | refine sat_same ?_ | refine sat_imp (by first | exact fun hh => hh | (intro hh; simp at hh ⊢; first | omega | exact hh | simp_all) | (simp_all; done)) ?_ | refine sat_need (by first | exact trivial | omega | exact ini (by omega) (by omega) | (intro hh; simp at hh; exact ini (by omega) (by omega)) | (intro hh; simp at hh ⊢; omega) | (simp at *; omega) | (simp_all; done)) ?_)
    refine sat_done ?_
    refine exS_normal ?_
    refine ev_seq ?_
    refine ev_cond rfl (fun c5 => ?_) (fun c5 => ?_)
    · try simp only [decide_eq_true_eq, decide_eq_false_iff_not, Bool.not_eq_true', Bool.not_eq_false', Bool.and_eq_true, Bool.or_eq_true, Bool.or_eq_false_iff, gt_iff_lt, Int.not_lt, Bool.not_true, Bool.not_false, Int.ofNat_lt, Int.ofNat_le] at c5
      refine ev_skip ?_
      refine exS_normal ?_
      refine ev_seq ?_
      refine ev_block ?_
      refine ev_seq (ev_region tabT [] 700 rfl ?_)
      repeat (first | refine sat_same ?_ | refine sat_imp (by first | exact fun hh => hh | (intro hh; simp at hh ⊢; first | omega | exact hh | simp_all) | (simp_all; done)) ?_ | refine sat_need (by first | exact trivial | omega | exact ini (by omega) (by omega) | (intro hh; simp at hh; exact ini (by omega) (by omega)) | (intro hh; simp at hh ⊢; omega) | (simp at *; omega) | (simp_all; done)) ?_)
      refine sat_done ?_
      refine exS_normal ?_
      refine ev_block ?_
      refine ev_seq (ev_region tabT [] 800 rfl ?_)
      repeat (first | refine sat_same ?_ | refine sat_imp (by first | exact fun hh => hh | (intro hh; simp at hh ⊢; first | omega | exact hh | simp_all) | (simp_all; done)) ?_ | refine sat_need (by first | exact trivial | omega | exact ini (by omega) (by omega) | (intro hh; simp at hh; exact ini (by omega) (by omega)) | (intro hh; simp at hh ⊢; omega) | (simp at *; omega) | (simp_all; done)) ?_)
      refine sat_fn _ (exceptionClass_ok h ((wlS h w).getD (x.k : Int).toNat vl0) (fun hk => wl_obj g hw (mem_getD c5 vl0) hk)) rfl ?_
      repeat (first | refine sat_same ?_ | refine sat_imp (by first | exact fun hh => hh | (intro hh; simp at hh ⊢; first | omega | exact hh | simp_all) | (simp_all; done)) ?_ | refine sat_need (by first | exact trivial | omega | exact ini (by omega) (by omega) | (intro hh; simp at hh; exact ini (by omega) (by omega)) | (intro hh; simp at hh ⊢; omega) | (simp at *; omega) | (simp_all; done)) ?_)
      refine sat_done ?_
      refine exS_normal ?_
      refine ev_cond rfl (fun c7 => ?_) (fun c7 => ?_)
      · replace c7 : ¬ excC h ((wlS h w).getD (x.k : Int).toNat vl0) = true := by simpa using c7
        refine ev_seq (ev_region tabT [] 900 rfl ?_)
        repeat (first | refine sat_same ?_ | refine sat_imp (by first | exact fun hh => hh | (intro hh; simp at hh ⊢; first | omega | exact hh | simp_all) | (simp_all; done)) ?_ | refine sat_need (by first | exact trivial | omega | exact ini (by omega) (by omega) | (intro hh; simp at hh; exact ini (by omega) (by omega)) | (intro hh; simp at hh ⊢; omega) | (simp at *; omega) | (simp_all; done)) ?_)
        refine sat_fn _ (raise_ok _ _) rfl ?_
        repeat (first | refine sat_same ?_ | refine sat_imp (by first | exact fun hh => hh | (intro hh; simp at hh ⊢; first | omega | exact hh | simp_all) | (simp_all; done)) ?_ | refine sat_need (by first | exact trivial | omega | exact ini (by omega) (by omega) | (intro hh; simp at hh; exact ini (by omega) (by omega)) | (intro hh; simp at hh ⊢; omega) | (simp at *; omega) | (simp_all; done)) ?_)
        refine sat_done ?_
        refine exS_normal ?_
        refine ev_ret ?_
        refine exBl_ret ?_
        refine exBl_ret ?_
        refine exS_ret ?_
        refine exL_ret ?_
        refine exBl_ret ?_
        refine exS_ret ?_
        exact FinV.ret rfl (SubP.of_eq (congrArg (fun s => D.agg (stD s)) (show _ = mtS h v b (wlS h w) from Eq.symm (x.eq.symm.trans (mt_bad c5 c7)))))
      · replace c7 : excC h ((wlS h w).getD (x.k : Int).toNat vl0) = true := by simpa using c7
        refine ev_seq (ev_region tabT [] 1000 rfl ?_)
        repeat (first | refine sat_same ?_ | refine sat_imp (by first | exact fun hh => hh | (intro hh; simp at hh ⊢; first | omega | exact hh | simp_all) | (simp_all; done)) ?_ | refine sat_need (by first | exact trivial | omega | exact ini (by omega) (by omega) | (intro hh; simp at hh; exact ini (by omega) (by omega)) | (intro hh; simp at hh ⊢; omega) | (simp at *; omega) | (simp_all; done)) ?_)
        refine sat_fnG _ (fun hg5 => Derives_ok h ((wlS h w).getD (x.k : Int).toNat vl0).r 48 (excC_in c7)) rfl ?_
        repeat (first | refine sat_same ?_ | refine sat_imp (by first | exact fun hh => hh | (intro hh; simp at hh ⊢; first | omega | exact hh | simp_all) | (simp_all; done)) ?_ | refine sat_need (by first | exact trivial | omega | exact ini (by omega) (by omega) | (intro hh; simp at hh; exact ini (by omega) (by omega)) | (intro hh; simp at hh ⊢; omega) | (simp at *; omega) | (simp_all; done)) ?_)
        refine sat_done ?_
        refine exS_normal ?_
        refine ev_cond rfl (fun c9 => ?_) (fun c9 => ?_)
        · 
          refine ev_seq (ev_region tabT [] 1100 rfl ?_)
          repeat (first | refine sat_same ?_ | refine sat_imp (by first | exact fun hh => hh | (intro hh; simp at hh ⊢; first | omega | exact hh | simp_all) | (simp_all; done)) ?_ | refine sat_need (by first | exact trivial | omega | exact ini (by omega) (by omega) | (intro hh; simp at hh; exact ini (by omega) (by omega)) | (intro hh; simp at hh ⊢; omega) | (simp at *; omega) | (simp_all; done)) ?_)
          refine sat_fn _ (raise_ok _ _) rfl ?_
          repeat (first | refine sat_same ?_ | refine sat_imp (by first | exact fun hh => hh | (intro hh; simp at hh ⊢; first | omega | exact hh | simp_all) | (simp_all; done)) ?_ | refine sat_need (by first | exact trivial | omega | exact ini (by omega) (by omega) | (intro hh; simp at hh; exact ini (by omega) (by omega)) | (intro hh; simp at hh ⊢; omega) | (simp at *; omega) | (simp_all; done)) ?_)
          refine sat_done ?_
          refine exS_normal ?_
          refine ev_ret ?_
          refine exBl_ret ?_
          refine exBl_ret ?_
          refine exS_ret ?_
          refine exL_ret ?_
          refine exBl_ret ?_
          refine exS_ret ?_
          exact FinV.ret rfl (SubP.of_eq (congrArg (fun s => D.agg (stD s)) (show _ = mtS h v b (wlS h w) from Eq.symm (x.eq.symm.trans (mt_grp c5 c7 c9)))))
        · replace c9 : ¬ (b && hasB (obAt h ((wlS h w).getD (x.k : Int).toNat vl0).r).order 48) = true := by rw [Bool.not_eq_true]; exact c9
          refine ev_seq (ev_region tabT [] 1200 rfl ?_)
          repeat (first | refine sat_same ?_ | refine sat_imp (by first | exact fun hh => hh | (intro hh; simp at hh ⊢; first | omega | exact hh | simp_all) | (simp_all; done)) ?_ | refine sat_need (by first | exact trivial | omega | exact ini (by omega) (by omega) | (intro hh; simp at hh; exact ini (by omega) (by omega)) | (intro hh; simp at hh ⊢; omega) | (simp at *; omega) | (simp_all; done)) ?_)
          refine sat_fn _ (RaisingIs_ok h v ((wlS h w).getD (x.k : Int).toNat vl0).r hv) rfl ?_
          repeat (first | refine sat_same ?_ | refine sat_imp (by first | exact fun hh => hh | (intro hh; simp at hh ⊢; first | omega | exact hh | simp_all) | (simp_all; done)) ?_ | refine sat_need (by first | exact trivial | omega | exact ini (by omega) (by omega) | (intro hh; simp at hh; exact ini (by omega) (by omega)) | (intro hh; simp at hh ⊢; omega) | (simp at *; omega) | (simp_all; done)) ?_)
          refine sat_done ?_
          refine exS_normal ?_
          refine ev_cond rfl (fun c11 => ?_) (fun c11 => ?_)
          · 
            refine ev_seq (ev_region tabT [] 1300 rfl ?_)
            repeat (first | refine sat_same ?_ | refine sat_imp (by first | exact fun hh => hh | (intro hh; simp at hh ⊢; first | omega | exact hh | simp_all) | (simp_all; done)) ?_ | refine sat_need (by first | exact trivial | omega | exact ini (by omega) (by omega) | (intro hh; simp at hh; exact ini (by omega) (by omega)) | (intro hh; simp at hh ⊢; omega) | (simp at *; omega) | (simp_all; done)) ?_)
            refine sat_fn _ (heapBool_ok _) rfl ?_
            repeat (first | refine sat_same ?_ | refine sat_imp (by first | exact fun hh => hh | (intro hh; simp at hh ⊢; first | omega | exact hh | simp_all) | (simp_all; done)) ?_ | refine sat_need (by first | exact trivial | omega | exact ini (by omega) (by omega) | (intro hh; simp at hh; exact ini (by omega) (by omega)) | (intro hh; simp at hh ⊢; omega) | (simp at *; omega) | (simp_all; done)) ?_)
            refine sat_fn _ (value_ok _) rfl ?_
            repeat (first | refine sat_same ?_ | refine sat_imp (by first | exact fun hh => hh | (intro hh; simp at hh ⊢; first | omega | exact hh | simp_all) | (simp_all; done)) ?_ | refine sat_need (by first | exact trivial | omega | exact ini (by omega) (by omega) | (intro hh; simp at hh; exact ini (by omega) (by omega)) | (intro hh; simp at hh ⊢; omega) | (simp at *; omega) | (simp_all; done)) ?_)
            refine sat_done ?_
            refine exS_normal ?_
            refine ev_ret ?_
            refine exBl_ret ?_
            refine exBl_ret ?_
            refine exS_ret ?_
            refine exL_ret ?_
            refine exBl_ret ?_
            refine exS_ret ?_
            exact FinV.ret rfl (SubP.of_eq (congrArg (fun s => D.agg (stD s)) (show _ = mtS h v b (wlS h w) from Eq.symm (x.eq.symm.trans (mt_yes c5 c7 c9 c11)))))
          · replace c11 : ¬ isaS h v ((wlS h w).getD (x.k : Int).toNat vl0).r = true := by rw [Bool.not_eq_true]; exact c11
            refine ev_skip ?_
            refine exBl_normal ?_
            refine exBl_normal ?_
            refine exS_normal ?_
            refine ev_region tabT [] 1400 rfl ?_
            repeat (first | refine sat_same ?_ | refine sat_imp (by first | exact fun hh => hh | (intro hh; simp at hh ⊢; first | omega | exact hh | simp_all) | (simp_all; done)) ?_ | refine sat_need (by first | exact trivial | omega | exact ini (by omega) (by omega) | (intro hh; simp at hh; exact ini (by omega) (by omega)) | (intro hh; simp at hh ⊢; omega) | (simp at *; omega) | (simp_all; done)) ?_)
            refine sat_done ?_
            exact exL_normal (x.next c5 (mt_nxt c5 c7 c9 c11)) ⟨(by first | exact trivial | (repeat (first | exact trivial | exact Sub.refl _ | refine ⟨?_, ?_⟩ | exact Sub.int (by first | rfl | omega | (push_cast; omega)) | exact Sub.nilSl | exact Sub.own rfl | exact Sub.slrSl rfl | exact Sub.ownSl (List.map_append).symm | exact Sub.ownSl rfl))), (by repeat (first | exact trivial | exact SubO.same rfl | refine ⟨?_, ?_⟩)), rfl, rfl⟩ (by show (wlS h w).length - (x.k + 1) < (wlS h w).length - x.k; omega)
    · try simp only [decide_eq_true_eq, decide_eq_false_iff_not, Bool.not_eq_true', Bool.not_eq_false', Bool.and_eq_true, Bool.or_eq_true, Bool.or_eq_false_iff, gt_iff_lt, Int.not_lt, Bool.not_true, Bool.not_false, Int.ofNat_lt, Int.ofNat_le] at c5
      refine ev_exit ?_
      refine exS_exit ?_
      refine exL_exit ?_
      refine exBl_same ?_
      refine exS_normal ?_
      refine ev_seq (ev_region tabT [] 1500 rfl ?_)
      repeat (first | refine sat_same ?_ | refine sat_imp (by first | exact fun hh => hh | (intro hh; simp at hh ⊢; first | omega | exact hh | simp_all) | (simp_all; done)) ?_ | refine sat_need (by first | exact trivial | omega | exact ini (by omega) (by omega) | (intro hh; simp at hh; exact ini (by omega) (by omega)) | (intro hh; simp at hh ⊢; omega) | (simp at *; omega) | (simp_all; done)) ?_)
      refine sat_fn _ (heapBool_ok _) rfl ?_
      repeat (first | refine sat_same ?_ | refine sat_imp (by first | exact fun hh => hh | (intro hh; simp at hh ⊢; first | omega | exact hh | simp_all) | (simp_all; done)) ?_ | refine sat_need (by first | exact trivial | omega | exact ini (by omega) (by omega) | (intro hh; simp at hh; exact ini (by omega) (by omega)) | (intro hh; simp at hh ⊢; omega) | (simp at *; omega) | (simp_all; done)) ?_)
      refine sat_fn _ (value_ok _) rfl ?_
      repeat (first | refine sat_same ?_ | refine sat_imp (by first | exact fun hh => hh | (intro hh; simp at hh ⊢; first | omega | exact hh | simp_all) | (simp_all; done)) ?_ | refine sat_need (by first | exact trivial | omega | exact ini (by omega) (by omega) | (intro hh; simp at hh; exact ini (by omega) (by omega)) | (intro hh; simp at hh ⊢; omega) | (simp at *; omega) | (simp_all; done)) ?_)
      refine sat_done ?_
      refine exS_normal ?_
      refine ev_ret ?_
      exact FinV.ret rfl (SubP.of_eq (congrArg (fun s => D.agg (stD s)) (show _ = mtS h v b (wlS h w) from Eq.symm (x.end c5))))

set_option maxHeartbeats 1000000 in
theorem Caught_ok (h : List Ob) (v w : Vl) (b : Bool) (hh : HpIn h) (g : Uh h) (hv : Rf h v) (hw : w.k = 6 → isObj h w.r = true) : Fn Tryz.prog 13 [hpD h, .agg (vlD v), .agg (vlD w), .v (.bool b)] (.agg (stD (mtS h v b (wlS h w)))) := by
  refine fn_ev tabT Tryz.func13 rfl rfl rfl rfl rfl rfl ?_
  intro w0 s0 mx
  refine ev_seq (ev_region tabT [] 100 rfl ?_)
  repeat (first | refine sat_same ?_ | refine sat_imp (by first | exact fun hh => hh | (intro hh; simp at hh ⊢; first | omega | exact hh | simp_all) | (simp_all; done)) ?_ | refine sat_need (by first | exact trivial | omega | exact ini (by omega) (by omega) | (intro hh; simp at hh; exact ini (by omega) (by omega)) | (intro hh; simp at hh ⊢; omega) | (simp at *; omega) | (simp_all; done)) ?_)
  refine sat_done ?_
  refine exS_normal ?_
  refine ev_seq (ev_region tabT [] 200 rfl ?_)
  repeat (first | refine sat_same ?_ | refine sat_imp (by first | exact fun hh => hh | (intro hh; simp at hh ⊢; first | omega | exact hh | simp_all) | (simp_all; done)) ?_ | refine sat_need (by first | exact trivial | omega | exact ini (by omega) (by omega) | (intro hh; simp at hh; exact ini (by omega) (by omega)) | (intro hh; simp at hh ⊢; omega) | (simp at *; omega) | (simp_all; done)) ?_)
  refine sat_done ?_
  refine exS_normal ?_
  refine ev_seq ?_
  refine ev_seq (ev_region tabT [] 300 rfl ?_)
  repeat (first | refine sat_same ?_ | refine sat_imp (by first | exact fun hh => hh | (intro hh; simp at hh ⊢; first | omega | exact hh | simp_all) | (simp_all; done)) ?_ | refine sat_need (by first | exact trivial | omega | exact ini (by omega) (by omega) | (intro hh; simp at hh; exact ini (by omega) (by omega)) | (intro hh; simp at hh ⊢; omega) | (simp at *; omega) | (simp_all; done)) ?_)
  refine sat_fn _ (Obj_ok _ _) rfl ?_
  repeat (first | refine sat_same ?_ | refine sat_imp (by first | exact fun hh => hh | (intro hh; simp at hh ⊢; first | omega | exact hh | simp_all) | (simp_all; done)) ?_ | refine sat_need (by first | exact trivial | omega | exact ini (by omega) (by omega) | (intro hh; simp at hh; exact ini (by omega) (by omega)) | (intro hh; simp at hh ⊢; omega) | (simp at *; omega) | (simp_all; done)) ?_)
  refine sat_done ?_
  refine exS_normal ?_
  refine ev_seq (ev_region tabT [] 400 rfl ?_)
  repeat (first | refine sat_same ?_ | refine sat_imp (by first | exact fun hh => hh | (intro hh; simp at hh ⊢; first | omega | exact hh | simp_all) | (simp_all; done)) ?_ | refine sat_need (by first | exact trivial | omega | exact ini (by omega) (by omega) | (intro hh; simp at hh; exact ini (by omega) (by omega)) | (intro hh; simp at hh ⊢; omega) | (simp at *; omega) | (simp_all; done)) ?_)
  refine sat_done ?_
  refine exS_normal ?_
  refine ev_cond rfl (fun c3 => ?_) (fun c3 => ?_)
  · replace c3 : (objS h w).kind = 1 := of_decide_eq_true c3
    refine ev_region tabT [] 500 rfl ?_
    repeat (first | refine sat_same ?_ | refine sat_imp (by first | exact fun hh => hh | (intro hh; simp at hh ⊢; first | omega | exact hh | simp_all) | (simp_all; done)) ?_ | refine sat_need (by first | exact trivial | omega | exact ini (by omega) (by omega) | (intro hh; simp at hh; exact ini (by omega) (by omega)) | (intro hh; simp at hh ⊢; omega) | (simp at *; omega) | (simp_all; done)) ?_)
    refine sat_done ?_
    refine exS_normal ?_
    refine ev_seq ?_
    refine ev_seq (ev_region tabT [] 600 rfl ?_)
    repeat (first | refine sat_same ?_ | refine sat_imp (by first | exact fun hh => hh | (intro hh; simp at hh ⊢; first | omega | exact hh | simp_all) | (simp_all; done)) ?_ | refine sat_need (by first | exact trivial | omega | exact ini (by omega) (by omega) | (intro hh; simp at hh; exact ini (by omega) (by omega)) | (intro hh; simp at hh ⊢; omega) | (simp at *; omega) | (simp_all; done)) ?_)
    refine sat_done ?_
    refine exS_normal ?_
    refine ev_tell [3, 4, 5, 8] [0, 1, 3] 610 [(23, .sl 7 (wlS h w) vlD vl0), (24, .v (.int .i64 (wlS h w).length)), (25, .v (.int .i64 0))] [] ?_
    refine ⟨⟨⟨(by first | exact Sub.of_eq (by rw [wlS, if_pos c3]) | exact Sub.slrSl (by rw [wlS, if_neg c3]; rfl)), Sub.int (by first | rw [wlS, if_pos c3] | (rw [wlS, if_neg c3]; rfl)), Sub.refl _, by repeat (first | exact trivial | exact Sub.refl _ | refine ⟨?_, ?_⟩)⟩, (by repeat (first | exact trivial | exact SubO.same rfl | refine ⟨?_, ?_⟩)), rfl, rfl⟩, ?_⟩
    refine ev_block ?_
    refine ev_loopK (ι := Sf (fun l => mtS h v b l) (wlS h w)) [3, 4, 5, 8, 23, 24] [0, 1, 3] 650 (fun x => [(25, .v (.int .i64 x.k))]) (fun _ => []) (fun x => (wlS h w).length - x.k) ⟨0, Nat.zero_le _, rfl⟩ ?_
    refine ⟨⟨(by first | exact trivial | (repeat (first | exact trivial | exact Sub.refl _ | refine ⟨?_, ?_⟩ | exact Sub.int (by first | rfl | omega | (push_cast; omega)) | exact Sub.nilSl | exact Sub.own rfl | exact Sub.slrSl rfl | exact Sub.ownSl (List.map_append).symm | exact Sub.ownSl rfl))), (by repeat (first | exact trivial | exact SubO.same rfl | refine ⟨?_, ?_⟩)), rfl, rfl⟩, fun x => ?_⟩
    have hk := x.le
    have hwl := wl_len (w := w) hh
    refine ev_seq (ev_region tabT [] 700 rfl ?_)
    repeat (first | refine sat_same ?_ | refine sat_imp (by first | exact fun hh => hh | (intro hh; simp at hh ⊢; first | omega | exact hh | simp_all) | (simp_all; done)) ?_ | refine sat_need (by first | exact trivial | omega | exact ini (by omega) (by omega) | (intro hh; simp at hh; exact ini (by omega) (by omega)) | (intro hh; simp at hh ⊢; omega) | (simp at *; omega) | (simp_all; done)) ?_)
    refine sat_done ?_
    refine exS_normal ?_
    refine ev_seq ?_
    refine ev_cond rfl (fun c6 => ?_) (fun c6 => ?_)
    · try simp only [decide_eq_true_eq, decide_eq_false_iff_not, Bool.not_eq_true', Bool.not_eq_false', Bool.and_eq_true, Bool.or_eq_true, Bool.or_eq_false_iff, gt_iff_lt, Int.not_lt, Bool.not_true, Bool.not_false, Int.ofNat_lt, Int.ofNat_le] at c6
      refine ev_skip ?_
      refine exS_normal ?_
      refine ev_seq ?_
      refine ev_block ?_
      refine ev_seq (ev_region tabT [] 800 rfl ?_)
      repeat (first | refine sat_same ?_ | refine sat_imp (by first | exact fun hh => hh | (intro hh; simp at hh ⊢; first | omega | exact hh | simp_all) | (simp_all; done)) ?_ | refine sat_need (by first | exact trivial | omega | exact ini (by omega) (by omega) | (intro hh; simp at hh; exact ini (by omega) (by omega)) | (intro hh; simp at hh ⊢; omega) | (simp at *; omega) | (simp_all; done)) ?_)
      refine sat_done ?_
      refine exS_normal ?_
      refine ev_seq ?_
      refine ev_seq (ev_region tabT [] 900 rfl ?_)
      repeat (first | refine sat_same ?_ | refine sat_imp (by first | exact fun hh => hh | (intro hh; simp at hh ⊢; first | omega | exact hh | simp_all) | (simp_all; done)) ?_ | refine sat_need (by first | exact trivial | omega | exact ini (by omega) (by omega) | (intro hh; simp at hh; exact ini (by omega) (by omega)) | (intro hh; simp at hh ⊢; omega) | (simp at *; omega) | (simp_all; done)) ?_)
      refine sat_fn _ (Obj_ok _ _) rfl ?_
      repeat (first | refine sat_same ?_ | refine sat_imp (by first | exact fun hh => hh | (intro hh; simp at hh ⊢; first | omega | exact hh | simp_all) | (simp_all; done)) ?_ | refine sat_need (by first | exact trivial | omega | exact ini (by omega) (by omega) | (intro hh; simp at hh; exact ini (by omega) (by omega)) | (intro hh; simp at hh ⊢; omega) | (simp at *; omega) | (simp_all; done)) ?_)
      refine sat_fnG _ (fun hg9 => DerivesFrom_ok h ((wlS h w).getD (x.k : Int).toNat vl0).r 28 (isObj_in (objS_of (h := h) (v := ((wlS h w).getD (x.k : Int).toNat vl0)) (by rw [show (objS h ((wlS h w).getD (x.k : Int).toNat vl0)).kind = 9 from (by simpa using hg9)]; decide)).2.1)) rfl ?_
      repeat (first | refine sat_same ?_ | refine sat_imp (by first | exact fun hh => hh | (intro hh; simp at hh ⊢; first | omega | exact hh | simp_all) | (simp_all; done)) ?_ | refine sat_need (by first | exact trivial | omega | exact ini (by omega) (by omega) | (intro hh; simp at hh; exact ini (by omega) (by omega)) | (intro hh; simp at hh ⊢; omega) | (simp at *; omega) | (simp_all; done)) ?_)
      refine sat_done ?_
      refine exS_normal ?_
      refine ev_cond rfl (fun c8 => ?_) (fun c8 => ?_)
      · replace c8 : ¬ excC h ((wlS h w).getD (x.k : Int).toNat vl0) = true := by rw [Bool.not_eq_true, excC, Bool.and_eq_false_iff]; simpa using c8
        refine ev_seq (ev_region tabT [] 1000 rfl ?_)
        repeat (first | refine sat_same ?_ | refine sat_imp (by first | exact fun hh => hh | (intro hh; simp at hh ⊢; first | omega | exact hh | simp_all) | (simp_all; done)) ?_ | refine sat_need (by first | exact trivial | omega | exact ini (by omega) (by omega) | (intro hh; simp at hh; exact ini (by omega) (by omega)) | (intro hh; simp at hh ⊢; omega) | (simp at *; omega) | (simp_all; done)) ?_)
        refine sat_fn _ (Raise_ok _ _) rfl ?_
        repeat (first | refine sat_same ?_ | refine sat_imp (by first | exact fun hh => hh | (intro hh; simp at hh ⊢; first | omega | exact hh | simp_all) | (simp_all; done)) ?_ | refine sat_need (by first | exact trivial | omega | exact ini (by omega) (by omega) | (intro hh; simp at hh; exact ini (by omega) (by omega)) | (intro hh; simp at hh ⊢; omega) | (simp at *; omega) | (simp_all; done)) ?_)
        refine sat_done ?_
        refine exS_normal ?_
        refine ev_ret ?_
        refine exS_ret ?_
        refine exBl_ret ?_
        refine exS_ret ?_
        refine exL_ret ?_
        refine exBl_ret ?_
        refine exS_ret ?_
        exact FinV.ret rfl (SubP.of_eq (congrArg (fun s => D.agg (stD s)) (show _ = mtS h v b (wlS h w) from Eq.symm (x.eq.symm.trans (mt_bad c6 c8)))))
      · replace c8 : excC h ((wlS h w).getD (x.k : Int).toNat vl0) = true := by rw [excC]; simpa using c8
        refine ev_skip ?_
        refine exS_normal ?_
        refine ev_seq ?_
        refine ev_seq (ev_region tabT [] 1100 rfl ?_)
        repeat (first | refine sat_same ?_ | refine sat_imp (by first | exact fun hh => hh | (intro hh; simp at hh ⊢; first | omega | exact hh | simp_all) | (simp_all; done)) ?_ | refine sat_need (by first | exact trivial | omega | exact ini (by omega) (by omega) | (intro hh; simp at hh; exact ini (by omega) (by omega)) | (intro hh; simp at hh ⊢; omega) | (simp at *; omega) | (simp_all; done)) ?_)
        refine sat_fnG _ (fun hg5 => DerivesFrom_ok h ((wlS h w).getD (x.k : Int).toNat vl0).r 48 (excC_in c8)) rfl ?_
        repeat (first | refine sat_same ?_ | refine sat_imp (by first | exact fun hh => hh | (intro hh; simp at hh ⊢; first | omega | exact hh | simp_all) | (simp_all; done)) ?_ | refine sat_need (by first | exact trivial | omega | exact ini (by omega) (by omega) | (intro hh; simp at hh; exact ini (by omega) (by omega)) | (intro hh; simp at hh ⊢; omega) | (simp at *; omega) | (simp_all; done)) ?_)
        refine sat_done ?_
        refine exS_normal ?_
        refine ev_cond rfl (fun c10 => ?_) (fun c10 => ?_)
        · 
          refine ev_seq (ev_region tabT [] 1200 rfl ?_)
          repeat (first | refine sat_same ?_ | refine sat_imp (by first | exact fun hh => hh | (intro hh; simp at hh ⊢; first | omega | exact hh | simp_all) | (simp_all; done)) ?_ | refine sat_need (by first | exact trivial | omega | exact ini (by omega) (by omega) | (intro hh; simp at hh; exact ini (by omega) (by omega)) | (intro hh; simp at hh ⊢; omega) | (simp at *; omega) | (simp_all; done)) ?_)
          refine sat_fn _ (Raise_ok _ _) rfl ?_
          repeat (first | refine sat_same ?_ | refine sat_imp (by first | exact fun hh => hh | (intro hh; simp at hh ⊢; first | omega | exact hh | simp_all) | (simp_all; done)) ?_ | refine sat_need (by first | exact trivial | omega | exact ini (by omega) (by omega) | (intro hh; simp at hh; exact ini (by omega) (by omega)) | (intro hh; simp at hh ⊢; omega) | (simp at *; omega) | (simp_all; done)) ?_)
          refine sat_done ?_
          refine exS_normal ?_
          refine ev_ret ?_
          refine exS_ret ?_
          refine exBl_ret ?_
          refine exS_ret ?_
          refine exL_ret ?_
          refine exBl_ret ?_
          refine exS_ret ?_
          exact FinV.ret rfl (SubP.of_eq (congrArg (fun s => D.agg (stD s)) (show _ = mtS h v b (wlS h w) from Eq.symm (x.eq.symm.trans (mt_grp c6 c8 c10)))))
        · replace c10 : ¬ (b && hasB (obAt h ((wlS h w).getD (x.k : Int).toNat vl0).r).order 48) = true := by rw [Bool.not_eq_true]; exact c10
          refine ev_skip ?_
          refine exS_normal ?_
          refine ev_seq (ev_region tabT [] 1300 rfl ?_)
          repeat (first | refine sat_same ?_ | refine sat_imp (by first | exact fun hh => hh | (intro hh; simp at hh ⊢; first | omega | exact hh | simp_all) | (simp_all; done)) ?_ | refine sat_need (by first | exact trivial | omega | exact ini (by omega) (by omega) | (intro hh; simp at hh; exact ini (by omega) (by omega)) | (intro hh; simp at hh ⊢; omega) | (simp at *; omega) | (simp_all; done)) ?_)
          refine sat_fn _ (IsA_ok h v ((wlS h w).getD (x.k : Int).toNat vl0).r hv.isa) rfl ?_
          repeat (first | refine sat_same ?_ | refine sat_imp (by first | exact fun hh => hh | (intro hh; simp at hh ⊢; first | omega | exact hh | simp_all) | (simp_all; done)) ?_ | refine sat_need (by first | exact trivial | omega | exact ini (by omega) (by omega) | (intro hh; simp at hh; exact ini (by omega) (by omega)) | (intro hh; simp at hh ⊢; omega) | (simp at *; omega) | (simp_all; done)) ?_)
          refine sat_done ?_
          refine exS_normal ?_
          refine ev_cond rfl (fun c12 => ?_) (fun c12 => ?_)
          · 
            refine ev_seq (ev_region tabT [] 1400 rfl ?_)
            repeat (first | refine sat_same ?_ | refine sat_imp (by first | exact fun hh => hh | (intro hh; simp at hh ⊢; first | omega | exact hh | simp_all) | (simp_all; done)) ?_ | refine sat_need (by first | exact trivial | omega | exact ini (by omega) (by omega) | (intro hh; simp at hh; exact ini (by omega) (by omega)) | (intro hh; simp at hh ⊢; omega) | (simp at *; omega) | (simp_all; done)) ?_)
            refine sat_fn _ (B_ok _) rfl ?_
            repeat (first | refine sat_same ?_ | refine sat_imp (by first | exact fun hh => hh | (intro hh; simp at hh ⊢; first | omega | exact hh | simp_all) | (simp_all; done)) ?_ | refine sat_need (by first | exact trivial | omega | exact ini (by omega) (by omega) | (intro hh; simp at hh; exact ini (by omega) (by omega)) | (intro hh; simp at hh ⊢; omega) | (simp at *; omega) | (simp_all; done)) ?_)
            refine sat_fn _ (Result_ok _) rfl ?_
            repeat (first | refine sat_same ?_ | refine sat_imp (by first | exact fun hh => hh | (intro hh; simp at hh ⊢; first | omega | exact hh | simp_all) | (simp_all; done)) ?_ | refine sat_need (by first | exact trivial | omega | exact ini (by omega) (by omega) | (intro hh; simp at hh; exact ini (by omega) (by omega)) | (intro hh; simp at hh ⊢; omega) | (simp at *; omega) | (simp_all; done)) ?_)
            refine sat_done ?_
            refine exS_normal ?_
            refine ev_ret ?_
            refine exBl_ret ?_
            refine exS_ret ?_
            refine exL_ret ?_
            refine exBl_ret ?_
            refine exS_ret ?_
            exact FinV.ret rfl (SubP.of_eq (congrArg (fun s => D.agg (stD s)) (show _ = mtS h v b (wlS h w) from Eq.symm (x.eq.symm.trans (mt_yes c6 c8 c10 c12)))))
          · replace c12 : ¬ isaS h v ((wlS h w).getD (x.k : Int).toNat vl0).r = true := by rw [Bool.not_eq_true]; exact c12
            refine ev_skip ?_
            refine exBl_normal ?_
            refine exS_normal ?_
            refine ev_region tabT [] 1500 rfl ?_
            repeat (first | refine sat_same ?_ | refine sat_imp (by first | exact fun hh => hh | (intro hh; simp at hh ⊢; first | omega | exact hh | simp_all) | (simp_all; done)) ?_ | refine sat_need (by first | exact trivial | omega | exact ini (by omega) (by omega) | (intro hh; simp at hh; exact ini (by omega) (by omega)) | (intro hh; simp at hh ⊢; omega) | (simp at *; omega) | (simp_all; done)) ?_)
            refine sat_done ?_
            exact exL_normal (x.next c6 (mt_nxt c6 c8 c10 c12)) ⟨(by first | exact trivial | (repeat (first | exact trivial | exact Sub.refl _ | refine ⟨?_, ?_⟩ | exact Sub.int (by first | rfl | omega | (push_cast; omega)) | exact Sub.nilSl | exact Sub.own rfl | exact Sub.slrSl rfl | exact Sub.ownSl (List.map_append).symm | exact Sub.ownSl rfl))), (by repeat (first | exact trivial | exact SubO.same rfl | refine ⟨?_, ?_⟩)), rfl, rfl⟩ (by show (wlS h w).length - (x.k + 1) < (wlS h w).length - x.k; omega)
    · try simp only [decide_eq_true_eq, decide_eq_false_iff_not, Bool.not_eq_true', Bool.not_eq_false', Bool.and_eq_true, Bool.or_eq_true, Bool.or_eq_false_iff, gt_iff_lt, Int.not_lt, Bool.not_true, Bool.not_false, Int.ofNat_lt, Int.ofNat_le] at c6
      refine ev_exit ?_
      refine exS_exit ?_
      refine exL_exit ?_
      refine exBl_same ?_
      refine exS_normal ?_
      refine ev_seq (ev_region tabT [] 1600 rfl ?_)
      repeat (first | refine sat_same ?_ | refine sat_imp (by first | exact fun hh => hh | (intro hh; simp at hh ⊢; first | omega | exact hh | simp_all) | (simp_all; done)) ?_ | refine sat_need (by first | exact trivial | omega | exact ini (by omega) (by omega) | (intro hh; simp at hh; exact ini (by omega) (by omega)) | (intro hh; simp at hh ⊢; omega) | (simp at *; omega) | (simp_all; done)) ?_)
      refine sat_fn _ (B_ok _) rfl ?_
      repeat (first | refine sat_same ?_ | refine sat_imp (by first | exact fun hh => hh | (intro hh; simp at hh ⊢; first | omega | exact hh | simp_all) | (simp_all; done)) ?_ | refine sat_need (by first | exact trivial | omega | exact ini (by omega) (by omega) | (intro hh; simp at hh; exact ini (by omega) (by omega)) | (intro hh; simp at hh ⊢; omega) | (simp at *; omega) | (simp_all; done)) ?_)
      refine sat_fn _ (Result_ok _) rfl ?_
      repeat (first | refine sat_same ?_ | refine sat_imp (by first | exact fun hh => hh | (intro hh; simp at hh ⊢; first | omega | exact hh | simp_all) | (simp_all; done)) ?_ | refine sat_need (by first | exact trivial | omega | exact ini (by omega) (by omega) | (intro hh; simp at hh; exact ini (by omega) (by omega)) | (intro hh; simp at hh ⊢; omega) | (simp at *; omega) | (simp_all; done)) ?_)
      refine sat_done ?_
      refine exS_normal ?_
      refine ev_ret ?_
      exact FinV.ret rfl (SubP.of_eq (congrArg (fun s => D.agg (stD s)) (show _ = mtS h v b (wlS h w) from Eq.symm (x.end c6))))
  · replace c3 : ¬ (objS h w).kind = 1 := of_decide_eq_false c3
    refine ev_skip ?_
    refine exS_normal ?_
    refine ev_seq ?_
    refine ev_seq (ev_region tabT [] 600 rfl ?_)
    repeat (first | refine sat_same ?_ | refine sat_imp (by first | exact fun hh => hh | (intro hh; simp at hh ⊢; first | omega | exact hh | simp_all) | (simp_all; done)) ?_ | refine sat_need (by first | exact trivial | omega | exact ini (by omega) (by omega) | (intro hh; simp at hh; exact ini (by omega) (by omega)) | (intro hh; simp at hh ⊢; omega) | (simp at *; omega) | (simp_all; done)) ?_)
    refine sat_done ?_
    refine exS_normal ?_
    refine ev_tell [3, 4, 5, 8] [0, 1, 3] 610 [(23, .sl 7 (wlS h w) vlD vl0), (24, .v (.int .i64 (wlS h w).length)), (25, .v (.int .i64 0))] [] ?_
    refine ⟨⟨⟨(by first | exact Sub.of_eq (by rw [wlS, if_pos c3]) | exact Sub.slrSl (by rw [wlS, if_neg c3]; rfl)), Sub.int (by first | rw [wlS, if_pos c3] | (rw [wlS, if_neg c3]; rfl)), Sub.refl _, by repeat (first | exact trivial | exact Sub.refl _ | refine ⟨?_, ?_⟩)⟩, (by repeat (first | exact trivial | exact SubO.same rfl | refine ⟨?_, ?_⟩)), rfl, rfl⟩, ?_⟩
    refine ev_block ?_
    refine ev_loopK (ι := Sf (fun l => mtS h v b l) (wlS h w)) [3, 4, 5, 8, 23, 24] [0, 1, 3] 650 (fun x => [(25, .v (.int .i64 x.k))]) (fun _ => []) (fun x => (wlS h w).length - x.k) ⟨0, Nat.zero_le _, rfl⟩ ?_
    refine ⟨⟨(by first | exact trivial | (repeat (first | exact trivial | exact Sub.refl _ | refine ⟨?_, ?_⟩ | exact Sub.int (by first | rfl | omega | (push_cast; omega)) | exact Sub.nilSl | exact Sub.own rfl | exact Sub.slrSl rfl | exact Sub.ownSl (List.map_append).symm | exact Sub.ownSl rfl))), (by repeat (first | exact trivial | exact SubO.same rfl | refine ⟨?_, ?_⟩)), rfl, rfl⟩, fun x => ?_⟩
    have hk := x.le
    have hwl := wl_len (w := w) hh
    refine ev_seq (ev_region tabT [] 700 rfl ?_)
    repeat (first | refine sat_same ?_ | refine sat_imp (by first | exact fun hh => hh | (intro hh; simp at hh ⊢; first | omega | exact hh | simp_all) | (simp_all; done)) ?_ | refine sat_need (by first | exact trivial | omega | exact ini (by omega) (by omega) | (intro hh; simp at hh; exact ini (by omega) (by omega)) | (intro hh; simp at hh ⊢; omega) | (simp at *; omega) | (simp_all; done)) ?_)
    refine sat_done ?_
    refine exS_normal ?_
    refine ev_seq ?_
    refine ev_cond rfl (fun c6 => ?_) (fun c6 => ?_)
    · try simp only [decide_eq_true_eq, decide_eq_false_iff_not, Bool.not_eq_true', Bool.not_eq_false', Bool.and_eq_true, Bool.or_eq_true, Bool.or_eq_false_iff, gt_iff_lt, Int.not_lt, Bool.not_true, Bool.not_false, Int.ofNat_lt, Int.ofNat_le] at c6
      refine ev_skip ?_
      refine exS_normal ?_
      refine ev_seq ?_
      refine ev_block ?_
      refine ev_seq (ev_region tabT [] 800 rfl ?_)
      repeat (first | refine sat_same ?_ | refine sat_imp (by first | exact fun hh => hh | (intro hh; simp at hh ⊢; first | omega | exact hh | simp_all) | (simp_all; done)) ?_ | refine sat_need (by first | exact trivial | omega | exact ini (by omega) (by omega) | (intro hh; simp at hh; exact ini (by omega) (by omega)) | (intro hh; simp at hh ⊢; omega) | (simp at *; omega) | (simp_all; done)) ?_)
      refine sat_done ?_
      refine exS_normal ?_
      refine ev_seq ?_
      refine ev_seq (ev_region tabT [] 900 rfl ?_)
      repeat (first | refine sat_same ?_ | refine sat_imp (by first | exact fun hh => hh | (intro hh; simp at hh ⊢; first | omega | exact hh | simp_all) | (simp_all; done)) ?_ | refine sat_need (by first | exact trivial | omega | exact ini (by omega) (by omega) | (intro hh; simp at hh; exact ini (by omega) (by omega)) | (intro hh; simp at hh ⊢; omega) | (simp at *; omega) | (simp_all; done)) ?_)
      refine sat_fn _ (Obj_ok _ _) rfl ?_
      repeat (first | refine sat_same ?_ | refine sat_imp (by first | exact fun hh => hh | (intro hh; simp at hh ⊢; first | omega | exact hh | simp_all) | (simp_all; done)) ?_ | refine sat_need (by first | exact trivial | omega | exact ini (by omega) (by omega) | (intro hh; simp at hh; exact ini (by omega) (by omega)) | (intro hh; simp at hh ⊢; omega) | (simp at *; omega) | (simp_all; done)) ?_)
      refine sat_fnG _ (fun hg9 => DerivesFrom_ok h ((wlS h w).getD (x.k : Int).toNat vl0).r 28 (isObj_in (objS_of (h := h) (v := ((wlS h w).getD (x.k : Int).toNat vl0)) (by rw [show (objS h ((wlS h w).getD (x.k : Int).toNat vl0)).kind = 9 from (by simpa using hg9)]; decide)).2.1)) rfl ?_
      repeat (first | refine sat_same ?_ | refine sat_imp (by first | exact fun hh => hh | (intro hh; simp at hh ⊢; first | omega | exact hh | simp_all) | (simp_all; done)) ?_ | refine sat_need (by first | exact trivial | omega | exact ini (by omega) (by omega) | (intro hh; simp at hh; exact ini (by omega) (by omega)) | (intro hh; simp at hh ⊢; omega) | (simp at *; omega) | (simp_all; done)) ?_)
      refine sat_done ?_
      refine exS_normal ?_
      refine ev_cond rfl (fun c8 => ?_) (fun c8 => ?_)
      · replace c8 : ¬ excC h ((wlS h w).getD (x.k : Int).toNat vl0) = true := by rw [Bool.not_eq_true, excC, Bool.and_eq_false_iff]; simpa using c8
        refine ev_seq (ev_region tabT [] 1000 rfl ?_)
        repeat (first | refine sat_same ?_ | refine sat_imp (by first | exact fun hh => hh | (intro hh; simp at hh ⊢; first | omega | exact hh | simp_all) | (simp_all; done)) ?_ | refine sat_need (by first | exact trivial | omega | exact ini (by omega) (by omega) | (intro hh; simp at hh; exact ini (by omega) (by omega)) | (intro hh; simp at hh ⊢; omega) | (simp at *; omega) | (simp_all; done)) ?_)
        refine sat_fn _ (Raise_ok _ _) rfl ?_
        repeat (first | refine sat_same ?_ | refine sat_imp (by first | exact fun hh => hh | (intro hh; simp at hh ⊢; first | omega | exact hh | simp_all) | (simp_all; done)) ?_ | refine sat_need (by first | exact trivial | omega | exact ini (by omega) (by omega) | (intro hh; simp at hh; exact ini (by omega) (by omega)) | (intro hh; simp at hh ⊢; omega) | (simp at *; omega) | (simp_all; done)) ?_)
        refine sat_done ?_
        refine exS_normal ?_
        refine ev_ret ?_
        refine exS_ret ?_
        refine exBl_ret ?_
        refine exS_ret ?_
        refine exL_ret ?_
        refine exBl_ret ?_
        refine exS_ret ?_
        exact FinV.ret rfl (SubP.of_eq (congrArg (fun s => D.agg (stD s)) (show _ = mtS h v b (wlS h w) from Eq.symm (x.eq.symm.trans (mt_bad c6 c8)))))
      · replace c8 : excC h ((wlS h w).getD (x.k : Int).toNat vl0) = true := by rw [excC]; simpa using c8
        refine ev_skip ?_
        refine exS_normal ?_
        refine ev_seq ?_
        refine ev_seq (ev_region tabT [] 1100 rfl ?_)
        repeat (first | refine sat_same ?_ | refine sat_imp (by first | exact fun hh => hh | (intro hh; simp at hh ⊢; first | omega | exact hh | simp_all) | (simp_all; done)) ?_ | refine sat_need (by first | exact trivial | omega | exact ini (by omega) (by omega) | (intro hh; simp at hh; exact ini (by omega) (by omega)) | (intro hh; simp at hh ⊢; omega) | (simp at *; omega) | (simp_all; done)) ?_)
        refine sat_fnG _ (fun hg5 => DerivesFrom_ok h ((wlS h w).getD (x.k : Int).toNat vl0).r 48 (excC_in c8)) rfl ?_
        repeat (first | refine sat_same ?_ | refine sat_imp (by first | exact fun hh => hh | (intro hh; simp at hh ⊢; first | omega | exact hh | simp_all) | (simp_all; done)) ?_ | refine sat_need (by first | exact trivial | omega | exact ini (by omega) (by omega) | (intro hh; simp at hh; exact ini (by omega) (by omega)) | (intro hh; simp at hh ⊢; omega) | (simp at *; omega) | (simp_all; done)) ?_)
        refine sat_done ?_
        refine exS_normal ?_
        refine ev_cond rfl (fun c10 => ?_) (fun c10 => ?_)
        · 
          refine ev_seq (ev_region tabT [] 1200 rfl ?_)
          repeat (first | refine sat_same ?_ | refine sat_imp (by first | exact fun hh => hh | (intro hh; simp at hh ⊢; first | omega | exact hh | simp_all) | (simp_all; done)) ?_ | refine sat_need (by first | exact trivial | omega | exact ini (by omega) (by omega) | (intro hh; simp at hh; exact ini (by omega) (by omega)) | (intro hh; simp at hh ⊢; omega) | (simp at *; omega) | (simp_all; done)) ?_)
          refine sat_fn _ (Raise_ok _ _) rfl ?_
          repeat (first | refine sat_same ?_ | refine sat_imp (by first | exact fun hh => hh | (intro hh; simp at hh ⊢; first | omega | exact hh | simp_all) | (simp_all; done)) ?_ | refine sat_need (by first | exact trivial | omega | exact ini (by omega) (by omega) | (intro hh; simp at hh; exact ini (by omega) (by omega)) | (intro hh; simp at hh ⊢; omega) | (simp at *; omega) | (simp_all; done)) ?_)
          refine sat_done ?_
          refine exS_normal ?_
          refine ev_ret ?_
          refine exS_ret ?_
          refine exBl_ret ?_
          refine exS_ret ?_
          refine exL_ret ?_
          refine exBl_ret ?_
          refine exS_ret ?_
          exact FinV.ret rfl (SubP.of_eq (congrArg (fun s => D.agg (stD s)) (show _ = mtS h v b (wlS h w) from Eq.symm (x.eq.symm.trans (mt_grp c6 c8 c10)))))
        · replace c10 : ¬ (b && hasB (obAt h ((wlS h w).getD (x.k : Int).toNat vl0).r).order 48) = true := by rw [Bool.not_eq_true]; exact c10
          refine ev_skip ?_
          refine exS_normal ?_
          refine ev_seq (ev_region tabT [] 1300 rfl ?_)
          repeat (first | refine sat_same ?_ | refine sat_imp (by first | exact fun hh => hh | (intro hh; simp at hh ⊢; first | omega | exact hh | simp_all) | (simp_all; done)) ?_ | refine sat_need (by first | exact trivial | omega | exact ini (by omega) (by omega) | (intro hh; simp at hh; exact ini (by omega) (by omega)) | (intro hh; simp at hh ⊢; omega) | (simp at *; omega) | (simp_all; done)) ?_)
          refine sat_fn _ (IsA_ok h v ((wlS h w).getD (x.k : Int).toNat vl0).r hv.isa) rfl ?_
          repeat (first | refine sat_same ?_ | refine sat_imp (by first | exact fun hh => hh | (intro hh; simp at hh ⊢; first | omega | exact hh | simp_all) | (simp_all; done)) ?_ | refine sat_need (by first | exact trivial | omega | exact ini (by omega) (by omega) | (intro hh; simp at hh; exact ini (by omega) (by omega)) | (intro hh; simp at hh ⊢; omega) | (simp at *; omega) | (simp_all; done)) ?_)
          refine sat_done ?_
          refine exS_normal ?_
          refine ev_cond rfl (fun c12 => ?_) (fun c12 => ?_)
          · 
            refine ev_seq (ev_region tabT [] 1400 rfl ?_)
            repeat (first | refine sat_same ?_ | refine sat_imp (by first | exact fun hh => hh | (intro hh; simp at hh ⊢; first | omega | exact hh | simp_all) | (simp_all; done)) ?_ | refine sat_need (by first | exact trivial | omega | exact ini (by omega) (by omega) | (intro hh; simp at hh; exact ini (by omega) (by omega)) | (intro hh; simp at hh ⊢; omega) | (simp at *; omega) | (simp_all; done)) ?_)
            refine sat_fn _ (B_ok _) rfl ?_
            repeat (first | refine sat_same ?_ | refine sat_imp (by first | exact fun hh => hh | (intro hh; simp at hh ⊢; first | omega | exact hh | simp_all) | (simp_all; done)) ?_ | refine sat_need (by first | exact trivial | omega | exact ini (by omega) (by omega) | (intro hh; simp at hh; exact ini (by omega) (by omega)) | (intro hh; simp at hh ⊢; omega) | (simp at *; omega) | (simp_all; done)) ?_)
            refine sat_fn _ (Result_ok _) rfl ?_
            repeat (first | refine sat_same ?_ | refine sat_imp (by first | exact fun hh => hh | (intro hh; simp at hh ⊢; first | omega | exact hh | simp_all) | (simp_all; done)) ?_ | refine sat_need (by first | exact trivial | omega | exact ini (by omega) (by omega) | (intro hh; simp at hh; exact ini (by omega) (by omega)) | (intro hh; simp at hh ⊢; omega) | (simp at *; omega) | (simp_all; done)) ?_)
            refine sat_done ?_
            refine exS_normal ?_
            refine ev_ret ?_
            refine exBl_ret ?_
            refine exS_ret ?_
            refine exL_ret ?_
            refine exBl_ret ?_
            refine exS_ret ?_
            exact FinV.ret rfl (SubP.of_eq (congrArg (fun s => D.agg (stD s)) (show _ = mtS h v b (wlS h w) from Eq.symm (x.eq.symm.trans (mt_yes c6 c8 c10 c12)))))
          · replace c12 : ¬ isaS h v ((wlS h w).getD (x.k : Int).toNat vl0).r = true := by rw [Bool.not_eq_true]; exact c12
            refine ev_skip ?_
            refine exBl_normal ?_
            refine exS_normal ?_
            refine ev_region tabT [] 1500 rfl ?_
            repeat (first | refine sat_same ?_ | refine sat_imp (by first | exact fun hh => hh | (intro hh; simp at hh ⊢; first | omega | exact hh | simp_all) | (simp_all; done)) ?_ | refine sat_need (by first | exact trivial | omega | exact ini (by omega) (by omega) | (intro hh; simp at hh; exact ini (by omega) (by omega)) | (intro hh; simp at hh ⊢; omega) | (simp at *; omega) | (simp_all; done)) ?_)
            refine sat_done ?_
            exact exL_normal (x.next c6 (mt_nxt c6 c8 c10 c12)) ⟨(by first | exact trivial | (repeat (first | exact trivial | exact Sub.refl _ | refine ⟨?_, ?_⟩ | exact Sub.int (by first | rfl | omega | (push_cast; omega)) | exact Sub.nilSl | exact Sub.own rfl | exact Sub.slrSl rfl | exact Sub.ownSl (List.map_append).symm | exact Sub.ownSl rfl))), (by repeat (first | exact trivial | exact SubO.same rfl | refine ⟨?_, ?_⟩)), rfl, rfl⟩ (by show (wlS h w).length - (x.k + 1) < (wlS h w).length - x.k; omega)
    · try simp only [decide_eq_true_eq, decide_eq_false_iff_not, Bool.not_eq_true', Bool.not_eq_false', Bool.and_eq_true, Bool.or_eq_true, Bool.or_eq_false_iff, gt_iff_lt, Int.not_lt, Bool.not_true, Bool.not_false, Int.ofNat_lt, Int.ofNat_le] at c6
      refine ev_exit ?_
      refine exS_exit ?_
      refine exL_exit ?_
      refine exBl_same ?_
      refine exS_normal ?_
      refine ev_seq (ev_region tabT [] 1600 rfl ?_)
      repeat (first | refine sat_same ?_ | refine sat_imp (by first | exact fun hh => hh | (intro hh; simp at hh ⊢; first | omega | exact hh | simp_all) | (simp_all; done)) ?_ | refine sat_need (by first | exact trivial | omega | exact ini (by omega) (by omega) | (intro hh; simp at hh; exact ini (by omega) (by omega)) | (intro hh; simp at hh ⊢; omega) | (simp at *; omega) | (simp_all; done)) ?_)
      refine sat_fn _ (B_ok _) rfl ?_
      repeat (first | refine sat_same ?_ | refine sat_imp (by first | exact fun hh => hh | (intro hh; simp at hh ⊢; first | omega | exact hh | simp_all) | (simp_all; done)) ?_ | refine sat_need (by first | exact trivial | omega | exact ini (by omega) (by omega) | (intro hh; simp at hh; exact ini (by omega) (by omega)) | (intro hh; simp at hh ⊢; omega) | (simp at *; omega) | (simp_all; done)) ?_)
      refine sat_fn _ (Result_ok _) rfl ?_
      repeat (first | refine sat_same ?_ | refine sat_imp (by first | exact fun hh => hh | (intro hh; simp at hh ⊢; first | omega | exact hh | simp_all) | (simp_all; done)) ?_ | refine sat_need (by first | exact trivial | omega | exact ini (by omega) (by omega) | (intro hh; simp at hh; exact ini (by omega) (by omega)) | (intro hh; simp at hh ⊢; omega) | (simp at *; omega) | (simp_all; done)) ?_)
      refine sat_done ?_
      refine exS_normal ?_
      refine ev_ret ?_
      exact FinV.ret rfl (SubP.of_eq (congrArg (fun s => D.agg (stD s)) (show _ = mtS h v b (wlS h w) from Eq.symm (x.end c6))))

set_option maxHeartbeats 1000000 in
theorem Law_ok (h : List Ob) (v w : Vl) (c : Int) (hh : HpIn h) (hiv : VlIn v) (hiw : VlIn w) : Fn Tryz.prog 3 [hpD h, .agg (vlD v), .agg (vlD w), .v (.int .i64 c)] (.v (.bool true)) := by
  refine fn_ev tabT Tryz.func3 rfl rfl rfl rfl rfl rfl ?_
  intro w0 s0 mx
  refine ev_seq (ev_region tabT [] 100 rfl ?_)
  repeat (first | refine sat_same ?_ | refine sat_imp (by first | exact fun hh => hh | (intro hh; simp at hh ⊢; first | omega | exact hh | simp_all) | (simp_all; done)) ?_ | refine sat_need (by first | exact trivial | omega | exact ini (by omega) (by omega) | (intro hh; simp at hh; exact ini (by omega) (by omega)) | (intro hh; simp at hh ⊢; omega) | (simp at *; omega) | (simp_all; done)) ?_)
  refine sat_done ?_
  refine exS_normal ?_
  refine ev_seq ?_
  refine ev_seq (ev_region tabT [] 200 rfl ?_)
  repeat (first | refine sat_same ?_ | refine sat_imp (by first | exact fun hh => hh | (intro hh; simp at hh ⊢; first | omega | exact hh | simp_all) | (simp_all; done)) ?_ | refine sat_need (by first | exact trivial | omega | exact ini (by omega) (by omega) | (intro hh; simp at hh; exact ini (by omega) (by omega)) | (intro hh; simp at hh ⊢; omega) | (simp at *; omega) | (simp_all; done)) ?_)
  refine sat_fn _ ((Usable_ok h [v, w] hh (fun u hu => by simp only [List.mem_cons, List.not_mem_nil, or_false] at hu; rcases hu with rfl | rfl <;> assumption) (by show 2 ≤ 2000000; omega)).args ⟨SubP.refl _, SubP.slrSl rfl, trivial⟩) rfl ?_
  repeat (first | refine sat_same ?_ | refine sat_imp (by first | exact fun hh => hh | (intro hh; simp at hh ⊢; first | omega | exact hh | simp_all) | (simp_all; done)) ?_ | refine sat_need (by first | exact trivial | omega | exact ini (by omega) (by omega) | (intro hh; simp at hh; exact ini (by omega) (by omega)) | (intro hh; simp at hh ⊢; omega) | (simp at *; omega) | (simp_all; done)) ?_)
  refine sat_done ?_
  refine exS_normal ?_
  refine ev_cond rfl (fun c1 => ?_) (fun c1 => ?_)
  · 
    refine ev_seq (ev_region tabT [] 300 rfl ?_)
    repeat (first | refine sat_same ?_ | refine sat_imp (by first | exact fun hh => hh | (intro hh; simp at hh ⊢; first | omega | exact hh | simp_all) | (simp_all; done)) ?_ | refine sat_need (by first | exact trivial | omega | exact ini (by omega) (by omega) | (intro hh; simp at hh; exact ini (by omega) (by omega)) | (intro hh; simp at hh ⊢; omega) | (simp at *; omega) | (simp_all; done)) ?_)
    refine sat_done ?_
    refine exS_normal ?_
    refine ev_ret ?_
    refine exS_ret ?_
    exact FinV.ret rfl (SubP.refl _)
  · have hp : (problemS h).1 = 0 ∧ hasS h v = true ∧ hasS h w = true := by
      have hu : usableS h [v, w] = true := by simpa using c1
      simp only [usableS, Bool.and_eq_true, decide_eq_true_eq, List.all_cons, List.all_nil, Bool.and_true] at hu
      exact ⟨hu.1, hu.2.1, hu.2.2⟩
    have g : Uh h := uh_of hp.1
    have hv : Rf h v := ⟨has_obj hp.2.1, fun hk => g.cls (isObj_in (has_obj hp.2.1 hk))⟩
    have hw : w.k = 6 → isObj h w.r = true := has_obj hp.2.2
    refine ev_skip ?_
    refine exS_normal ?_
    refine ev_seq ?_
    refine ev_seq (ev_drawn tabT [] [[], [], [0, 1], [0, 1, 2], [0, 1, 2, 3], [0, 1, 2, 3, 4], [0, 1, 2, 3], [0, 1, 2, 3, 4, 5, 6], [0, 1, 2, 3, 4, 5, 6, 7], [0, 1, 2, 3, 4, 5, 6, 7, 8], [0, 1, 2, 3, 4, 5, 6, 7, 8, 9], [0, 1, 2, 3, 4, 5, 6, 7, 8, 9, 10], [0, 1, 2, 3, 4, 5, 6, 7, 8, 9, 10, 11], [0, 1, 2, 3, 4, 5, 6, 7, 8, 9, 10, 11, 12], [0, 1, 2, 3, 4, 5, 6, 7, 8, 9, 10, 11, 12], [0, 1, 2, 3, 4, 5, 6, 7, 8, 9, 10, 11, 12], [0, 1, 2, 3, 4, 5, 6, 7, 8, 9, 10, 11, 12, 13, 14, 15], [0, 1, 2, 3, 4, 5, 6, 7, 8, 9, 10, 11, 12], [0, 1, 2, 3, 4, 5, 6, 7, 8, 9, 10, 11, 12], [0, 1, 2, 3, 4, 5, 6, 7, 8, 9, 10, 11, 12], [0, 1, 2, 3, 4, 5, 6, 7, 8, 9, 10, 11, 12, 13, 14, 15, 16, 17, 18, 19], [0, 1, 2, 3, 4, 5, 6, 7, 8, 9, 10, 11, 12, 13, 14, 15, 16, 17, 18, 19, 20], [0, 1, 2, 3, 4, 5, 6, 7, 8, 9, 10, 11, 12, 13, 14, 15, 16, 17, 18, 19, 20, 21]] 400 mixT (by kernel_rfl) rfl ?_)
    repeat (first | refine sat_same ?_ | refine sat_imp (by first | exact fun hh => hh | (intro hh; simp at hh ⊢; first | omega | exact hh | simp_all) | (simp_all; done)) ?_ | refine sat_need (by first | (intro hh; exact isObj_in hh) | rfl) ?_)
    refine sat_fn _ (IsObject_ok _ _) rfl ?_
    repeat (first | refine sat_same ?_ | refine sat_imp (by first | exact fun hh => hh | (intro hh; simp at hh ⊢; first | omega | exact hh | simp_all) | (simp_all; done)) ?_ | refine sat_need (by first | (intro hh; exact isObj_in hh) | rfl) ?_)
    refine sat_fnG _ (fun hg16 => RaisingIs_ok h v c hv) rfl ?_
    repeat (first | refine sat_same ?_ | refine sat_imp (by first | exact fun hh => hh | (intro hh; simp at hh ⊢; first | omega | exact hh | simp_all) | (simp_all; done)) ?_ | refine sat_need (by first | (intro hh; exact isObj_in hh) | rfl) ?_)
    refine sat_fnG _ (fun hg20 => IsA_ok h v c hv.isa) rfl ?_
    repeat (first | refine sat_same ?_ | refine sat_imp (by first | exact fun hh => hh | (intro hh; simp at hh ⊢; first | omega | exact hh | simp_all) | (simp_all; done)) ?_ | refine sat_need (by first | (intro hh; exact isObj_in hh) | rfl) ?_)
    refine sat_done ?_
    refine exS_normal ?_
    refine ev_cond rfl (fun c3 => ?_) (fun c3 => ?_)
    · exfalso; simp at c3
      done
    · 
      refine ev_skip ?_
      refine exS_normal ?_
      refine ev_seq ?_
      refine ev_seq (ev_region tabT [] 600 rfl ?_)
      repeat (first | refine sat_same ?_ | refine sat_imp (by first | exact fun hh => hh | (intro hh; simp at hh ⊢; first | omega | exact hh | simp_all) | (simp_all; done)) ?_ | refine sat_need (by first | exact trivial | omega | exact ini (by omega) (by omega) | (intro hh; simp at hh; exact ini (by omega) (by omega)) | (intro hh; simp at hh ⊢; omega) | (simp at *; omega) | (simp_all; done)) ?_)
      refine sat_fn _ (Exception_ok _ _) rfl ?_
      repeat (first | refine sat_same ?_ | refine sat_imp (by first | exact fun hh => hh | (intro hh; simp at hh ⊢; first | omega | exact hh | simp_all) | (simp_all; done)) ?_ | refine sat_need (by first | exact trivial | omega | exact ini (by omega) (by omega) | (intro hh; simp at hh; exact ini (by omega) (by omega)) | (intro hh; simp at hh ⊢; omega) | (simp at *; omega) | (simp_all; done)) ?_)
      refine sat_done ?_
      refine exS_normal ?_
      refine ev_cond rfl (fun c5 => ?_) (fun c5 => ?_)
      · 
        refine ev_seq (ev_region tabT [] 700 rfl ?_)
        repeat (first | refine sat_same ?_ | refine sat_imp (by first | exact fun hh => hh | (intro hh; simp at hh ⊢; first | omega | exact hh | simp_all) | (simp_all; done)) ?_ | refine sat_need (by first | exact trivial | omega | exact ini (by omega) (by omega) | (intro hh; simp at hh; exact ini (by omega) (by omega)) | (intro hh; simp at hh ⊢; omega) | (simp at *; omega) | (simp_all; done)) ?_)
        refine sat_done ?_
        refine exS_normal ?_
        refine ev_ret ?_
        refine exS_ret ?_
        exact FinV.ret rfl (SubP.refl _)
      · 
        refine ev_skip ?_
        refine exS_normal ?_
        refine ev_seq (ev_drawn tabT [] [[], [], [], [0, 1, 2], [], [], [], [0, 1, 2, 3, 4, 5, 6], [0, 1, 2, 3, 4, 5, 6, 7], [0, 1, 2, 3, 4, 5, 6, 7, 8], [0, 1, 2, 3, 4, 5, 6, 7, 8, 9], [0, 1, 2, 3, 4, 5, 6, 7, 8, 9], [0, 1, 2, 3, 4, 5, 6, 7, 8, 9], [0, 1, 2, 3, 4, 5, 6, 7, 8, 9, 10, 11, 12], [0, 1, 2, 3, 4, 5, 6, 7, 8, 9], [0, 1, 2, 3, 4, 5, 6, 7, 8, 9], [0, 1, 2, 3, 4, 5, 6, 7, 8, 9], [0, 1, 2, 3, 4, 5, 6, 7, 8, 9, 10, 11, 12, 13, 14, 15, 16], [0, 1, 2, 3, 4, 5, 6, 7, 8, 9, 10, 11, 12, 13, 14, 15, 16, 17], [0, 1, 2, 3, 4, 5, 6, 7, 8, 9, 10, 11, 12, 13, 14, 15, 16, 17, 18], [0, 1, 2, 3, 4, 5, 6, 7, 8, 9, 10, 11, 12, 13, 14, 15, 16, 17, 18, 19]] 800 mixT (by kernel_rfl) rfl ?_)
        repeat (first | refine sat_same ?_ | refine sat_imp (by first | exact fun hh => hh | (intro hh; simp at hh ⊢; first | omega | exact hh | simp_all) | (simp_all; done)) ?_ | refine sat_need (by first | exact trivial | omega | exact ini (by omega) (by omega) | (intro hh; simp at hh; exact ini (by omega) (by omega)) | (intro hh; simp at hh ⊢; omega) | (simp at *; omega) | (simp_all; done)) ?_)
        refine sat_fn _ (Matches_ok h v w false hh g hv hw) rfl ?_
        repeat (first | refine sat_same ?_ | refine sat_imp (by first | exact fun hh => hh | (intro hh; simp at hh ⊢; first | omega | exact hh | simp_all) | (simp_all; done)) ?_ | refine sat_need (by first | exact trivial | omega | exact ini (by omega) (by omega) | (intro hh; simp at hh; exact ini (by omega) (by omega)) | (intro hh; simp at hh ⊢; omega) | (simp at *; omega) | (simp_all; done)) ?_)
        refine sat_fn _ (Caught_ok h v w false hh g hv hw) rfl ?_
        repeat (first | refine sat_same ?_ | refine sat_imp (by first | exact fun hh => hh | (intro hh; simp at hh ⊢; first | omega | exact hh | simp_all) | (simp_all; done)) ?_ | refine sat_need (by first | exact trivial | omega | exact ini (by omega) (by omega) | (intro hh; simp at hh; exact ini (by omega) (by omega)) | (intro hh; simp at hh ⊢; omega) | (simp at *; omega) | (simp_all; done)) ?_)
        refine sat_fn _ (SameStep_ok (mtS h v false (wlS h w)) (mtS h v false (wlS h w))) rfl ?_
        repeat (first | refine sat_same ?_ | refine sat_imp (by first | exact fun hh => hh | (intro hh; simp at hh ⊢; first | omega | exact hh | simp_all) | (simp_all; done)) ?_ | refine sat_need (by first | exact trivial | omega | exact ini (by omega) (by omega) | (intro hh; simp at hh; exact ini (by omega) (by omega)) | (intro hh; simp at hh ⊢; omega) | (simp at *; omega) | (simp_all; done)) ?_)
        refine sat_fnG _ (fun hg13 => Matches_ok h v w true hh g hv hw) rfl ?_
        repeat (first | refine sat_same ?_ | refine sat_imp (by first | exact fun hh => hh | (intro hh; simp at hh ⊢; first | omega | exact hh | simp_all) | (simp_all; done)) ?_ | refine sat_need (by first | exact trivial | omega | exact ini (by omega) (by omega) | (intro hh; simp at hh; exact ini (by omega) (by omega)) | (intro hh; simp at hh ⊢; omega) | (simp at *; omega) | (simp_all; done)) ?_)
        refine sat_fnG _ (fun hg17 => Caught_ok h v w true hh g hv hw) rfl ?_
        repeat (first | refine sat_same ?_ | refine sat_imp (by first | exact fun hh => hh | (intro hh; simp at hh ⊢; first | omega | exact hh | simp_all) | (simp_all; done)) ?_ | refine sat_need (by first | exact trivial | omega | exact ini (by omega) (by omega) | (intro hh; simp at hh; exact ini (by omega) (by omega)) | (intro hh; simp at hh ⊢; omega) | (simp at *; omega) | (simp_all; done)) ?_)
        refine sat_fnG _ (fun hg18 => SameStep_ok (mtS h v true (wlS h w)) (mtS h v true (wlS h w))) rfl ?_
        repeat (first | refine sat_same ?_ | refine sat_imp (by first | exact fun hh => hh | (intro hh; simp at hh ⊢; first | omega | exact hh | simp_all) | (simp_all; done)) ?_ | refine sat_need (by first | exact trivial | omega | exact ini (by omega) (by omega) | (intro hh; simp at hh; exact ini (by omega) (by omega)) | (intro hh; simp at hh ⊢; omega) | (simp at *; omega) | (simp_all; done)) ?_)
        refine sat_done ?_
        refine exS_normal ?_
        refine ev_ret ?_
        exact FinV.ret rfl (SubP.bool (by simp only [smSt_self]; rfl))

end Go.Proofs.YtfkaepjlmgolhaaGreatDoor
