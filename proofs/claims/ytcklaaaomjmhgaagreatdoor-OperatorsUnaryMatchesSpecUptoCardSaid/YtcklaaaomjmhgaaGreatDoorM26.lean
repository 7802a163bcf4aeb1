/- Part 26 of the proof. -/
import Derived.Test.YtcklaaaomjmhgaaGreatDoorM25
import Derived.Test.YtcklaaaomjmhgaaGreatDoorM21


/- Walks by the evaluator: unary operators as plans; the law of statement 14. -/
namespace Go.Proofs.YtcklaaaomjmhgaaGreatDoor
open Go.RowKit
variable {md me : Bool}
def vbL : List ByteArray := [⟨#[110, 101, 103]⟩, ⟨#[112, 111, 115]⟩, ⟨#[105, 110, 118, 101, 114, 116]⟩, ⟨#[110, 111, 116]⟩, ⟨#[97, 100, 100]⟩, ⟨#[115, 117, 98]⟩, ⟨#[109, 117, 108]⟩, ⟨#[100, 105, 118]⟩, ⟨#[102, 108, 111, 111, 114]⟩, ⟨#[109, 111, 100]⟩, ⟨#[112, 111, 119]⟩, ⟨#[108, 101, 102, 116]⟩, ⟨#[114, 105, 103, 104, 116]⟩, ⟨#[97, 110, 100]⟩, ⟨#[111, 114]⟩, ⟨#[120, 111, 114]⟩]
def sgnL : List ByteArray := [⟨#[45]⟩, ⟨#[43]⟩, ⟨#[126]⟩, ⟨#[110, 111, 116]⟩, ⟨#[43]⟩, ⟨#[45]⟩, ⟨#[42]⟩, ⟨#[47]⟩, ⟨#[47, 47]⟩, ⟨#[37]⟩, ⟨#[42, 42]⟩, ⟨#[60, 60]⟩, ⟨#[62, 62]⟩, ⟨#[38]⟩, ⟨#[124]⟩, ⟨#[94]⟩]
def hpP (m md : Bool) (h : List Ob) : D := .pt m [.sl md 10 h obD ob0]
theorem dgl {l : List Nat} (hg : Lg l) : (dig (VL l)).length ≤ 2 * l.length := dig_length_le (by
  have := L_lt hg
  rw [Nat.pow_mul]
  exact this)
theorem ntl {b : Bool} {l : List Nat} (hg : Lg l) : (dig (ntB b (VL l)).2).length ≤ 2 * l.length + 1 := dig_length_le (by
  have h1 := L_lt hg
  have h2 : (65536 : Nat) ^ (2 * l.length + 1) = 65536 * 4294967296 ^ l.length := by rw [Nat.pow_succ, Nat.pow_mul, Nat.mul_comm]
  unfold ntB
  split
  · show VL l - 1 < _; omega
  · show VL l + 1 < _; omega)
theorem bsz (a : Array UInt8) : (⟨a⟩ : ByteArray).size = a.size := rfl
theorem att_len (h : List Ob) (v : Vl) (s : ByteArray) (l : List Vl) : (attS h v s l).length ≤ 1 := by
  unfold attS
  split
  · exact Nat.le_refl _
  · exact Nat.zero_le _
theorem has_vok {h : List Ob} {v : Vl} (hs : hasS h v = true) : vokS v = true := by
  unfold hasS at hs
  simp only [Bool.and_eq_true] at hs
  exact hs.1
theorem vl_in {v : Vl} (h : VlIn v) : v.nl.length ≤ 2000000 ∧ v.dl.length ≤ 2000000 := ⟨h.nn, h.dn⟩
theorem Verbs_ok  : Fn Tryz.prog 22 [] (ssD vbL) := by
  refine fn_ev tabT Tryz.func22 rfl rfl rfl rfl rfl rfl ?_
  intro w0 s0 mx
  refine ev_R tabT [] 100 ?_
  refine ev_seq (ev_region tabT [] 200 rfl ?_)
  refine sat_go ?_
  refine sat_fn _ (Fields_ok _ (l := vbL) (by decide +kernel) (by decide +kernel) (by decide +kernel) (by decide +kernel)) rfl ?_
  refine sat_go ?_
  refine sat_done (exS_normal (ev_ret ?_))
  exact FinV.ret rfl (SubP.refl _)
theorem Signs_ok  : Fn Tryz.prog 33 [] (ssD sgnL) := by
  refine fn_ev tabT Tryz.func33 rfl rfl rfl rfl rfl rfl ?_
  intro w0 s0 mx
  refine ev_R tabT [] 100 ?_
  refine ev_seq (ev_region tabT [] 200 rfl ?_)
  refine sat_go ?_
  refine sat_fn _ (Fields_ok _ (l := sgnL) (by decide +kernel) (by decide +kernel) (by decide +kernel) (by decide +kernel)) rfl ?_
  refine sat_go ?_
  refine sat_done (exS_normal (ev_ret ?_))
  exact FinV.ret rfl (SubP.refl _)
set_option maxHeartbeats 1000000 in
theorem opUn1 (h : List Ob) (v : Vl) (hh : HpIn h) (g : Uh h) (hi : VlIn v) (hs : hasS h v = true) : Fn Tryz.prog 7 [hpP me md h, .v (.int .i64 1), .agg (vlD v)] (plnD (attS h v (onB ++ unN 1) []) (unL h 1 v)) := by
  have hvo := has_obj hs
  have hcf := cf_of g hs
  have hl := vl_in hi
  have hg := hi.nl
  have hok := has_vok hs
  have hnm := (hh.at (clA h v)).nm
  have hdd : ∀ c : Prop, ∀ [Decidable c], (dig (if c then VL v.dl else 1)).length ≤ 100000000 := fun c _ => by split; (have := dgl hi.dl; omega); decide +kernel
  have hnz : v.k = 2 → v.nn = true → 0 < VL v.nl := fun hk => (num_ok hg hok (.inl hk)).2.2
  refine fn_ev tabT Tryz.func7 rfl rfl rfl rfl rfl rfl ?_
  intro w0 s0 mx
  refine ev_R tabT [] 100 ?_
  refine ev_seq (ev_region tabT [] 200 rfl ?_)
  refine sat_go ?_
  refine sat_fn _ (unaries_ok) rfl ?_
  refine sat_go ?_
  refine sat_done (exS_normal ?_)
  refine ev_seq (ev_drawn tabT [] [[], [0], [0, 1], [], [], [4], [4, 5], [0, 1, 2, 3, 4, 5, 6], [0, 1, 2, 3, 4, 5, 6, 7], [], [0, 1, 2, 3, 4, 5, 6, 7, 8, 9]] 300 mixT (by kernel_rfl) rfl ?_)
  repeat (first | refine sat_same ?_ | refine sat_impA ?_ | refine sat_need (by first | (decide +kernel) | (have hG : (unG 1).size ≤ 10 := by decide +kernel); (have hG2 : (sgnL.getD (Int.toNat (1 - 1)) ByteArray.empty).size ≤ 10 := by decide +kernel); (simp only [ByteArray.size_append, bsz, List.size_toArray, List.length_cons, List.length_nil]; omega) | first | exact trivial | omega | exact ini (by omega) (by omega) | (intro hh; simp at hh; exact ini (by omega) (by omega)) | (intro hh; simp at hh ⊢; omega) | (simp at *; omega) | (simp_all; done)) ?_)
  refine sat_fn _ ((opAttempt_ok h v (onB ++ unN 1) [] hh g hvo (by decide)).args ⟨SubP.refl _, SubP.refl _, SubP.refl _, SubP.nilSl rfl, trivial⟩) rfl ?_
  repeat (first | refine sat_same ?_ | refine sat_impA ?_ | refine sat_need (by first | (decide +kernel) | (have hG : (unG 1).size ≤ 10 := by decide +kernel); (have hG2 : (sgnL.getD (Int.toNat (1 - 1)) ByteArray.empty).size ≤ 10 := by decide +kernel); (simp only [ByteArray.size_append, bsz, List.size_toArray, List.length_cons, List.length_nil]; omega) | first | exact trivial | omega | exact ini (by omega) (by omega) | (intro hh; simp at hh; exact ini (by omega) (by omega)) | (intro hh; simp at hh ⊢; omega) | (simp at *; omega) | (simp_all; done)) ?_)
  refine sat_done (exS_normal ?_)
  refine ev_seq ?_
  refine ev_seq (ev_region tabT [] 400 rfl ?_)
  refine sat_go ?_
  refine sat_fn _ (opUnary_ok 1 v hg hok) rfl ?_
  refine sat_go ?_
  refine sat_done (exS_normal ?_)
  refine ev_R tabT [] 500 ?_
  refine ev_if (fun c4 => ?_) (fun c4 => ?_)
  ·
    refine ev_Q tabT [] 600 ?_
    refine exS_normal ?_
    refine ev_R tabT [] 800 ?_
    refine ev_ret ?_
    exact FinV.ret rfl (SubP.of_eq (by rw [unL, if_pos (by simpa using c4)]; rfl))
  ·
    refine ev_drawn tabT [] [[], [0], [0, 1], [0, 1, 2], [], [4], [4, 5], [], [4, 5, 6, 7], [0, 1, 2, 3, 4, 5, 6, 7, 8], [0, 1, 2, 3, 4, 5, 6, 7, 8, 9], [0, 1, 2, 3, 4, 5, 6, 7, 8, 9, 10], [0, 1, 2, 3, 4, 5, 6, 7, 8, 9, 10, 11], [0, 1, 2, 3, 4, 5, 6, 7, 8, 9, 10, 11, 12]] 700 mixT (by kernel_rfl) rfl ?_
    repeat (first | refine sat_same ?_ | refine sat_impA ?_ | refine sat_need (by first | (decide +kernel) | (have hG : (unG 1).size ≤ 10 := by decide +kernel); (have hG2 : (sgnL.getD (Int.toNat (1 - 1)) ByteArray.empty).size ≤ 10 := by decide +kernel); (simp only [ByteArray.size_append, bsz, List.size_toArray, List.length_cons, List.length_nil]; omega) | first | exact trivial | omega | exact ini (by omega) (by omega) | (intro hh; simp at hh; exact ini (by omega) (by omega)) | (intro hh; simp at hh ⊢; omega) | (simp at *; omega) | (simp_all; done)) ?_)
    refine sat_fn _ (heapName_ok h v g hcf) rfl ?_
    repeat (first | refine sat_same ?_ | refine sat_impA ?_ | refine sat_need (by first | (decide +kernel) | (have hG : (unG 1).size ≤ 10 := by decide +kernel); (have hG2 : (sgnL.getD (Int.toNat (1 - 1)) ByteArray.empty).size ≤ 10 := by decide +kernel); (simp only [ByteArray.size_append, bsz, List.size_toArray, List.length_cons, List.length_nil]; omega) | first | exact trivial | omega | exact ini (by omega) (by omega) | (intro hh; simp at hh; exact ini (by omega) (by omega)) | (intro hh; simp at hh ⊢; omega) | (simp at *; omega) | (simp_all; done)) ?_)
    refine sat_fn _ (opRaise_ok 32 (unT h 1 v)) rfl ?_
    repeat (first | refine sat_same ?_ | refine sat_impA ?_ | refine sat_need (by first | (decide +kernel) | (have hG : (unG 1).size ≤ 10 := by decide +kernel); (have hG2 : (sgnL.getD (Int.toNat (1 - 1)) ByteArray.empty).size ≤ 10 := by decide +kernel); (simp only [ByteArray.size_append, bsz, List.size_toArray, List.length_cons, List.length_nil]; omega) | first | exact trivial | omega | exact ini (by omega) (by omega) | (intro hh; simp at hh; exact ini (by omega) (by omega)) | (intro hh; simp at hh ⊢; omega) | (simp at *; omega) | (simp_all; done)) ?_)
    refine sat_done (exS_normal ?_)
    refine ev_R tabT [] 800 ?_
    refine ev_ret ?_
    exact FinV.ret rfl (SubP.of_eq (by rw [unL, if_neg (by simpa using c4)]; rfl))
set_option maxHeartbeats 1000000 in
theorem rfUn1 (h : List Ob) (v : Vl) (hh : HpIn h) (g : Uh h) (hi : VlIn v) (hs : hasS h v = true) : Fn Tryz.prog 8 [hpD md h, .v (.int .i64 1), .agg (vlD v)] (plnD (attS h v (onB ++ unN 1) []) (unL h 1 v)) := by
  have hvo := has_obj hs
  have hcf := cf_of g hs
  have hl := vl_in hi
  have hg := hi.nl
  have hok := has_vok hs
  have hnm := (hh.at (clA h v)).nm
  have hdd : ∀ c : Prop, ∀ [Decidable c], (dig (if c then VL v.dl else 1)).length ≤ 100000000 := fun c _ => by split; (have := dgl hi.dl; omega); decide +kernel
  have hnz : v.k = 2 → v.nn = true → 0 < VL v.nl := fun hk => (num_ok hg hok (.inl hk)).2.2
  refine fn_ev tabT Tryz.func8 rfl rfl rfl rfl rfl rfl ?_
  intro w0 s0 mx
  refine ev_R tabT [] 100 ?_
  refine ev_seq (ev_drawn tabT [] [[], [], [], [], [3], [2, 3, 4], [2, 3, 4, 5], [2, 3, 4, 5, 6], [0, 1, 2, 3, 4, 5, 6, 7], [0, 1, 2, 3, 4, 5, 6, 7, 8], [], [0, 1, 2, 3, 4, 5, 6, 7, 8, 9, 10]] 200 mixT (by kernel_rfl) rfl ?_)
  repeat (first | refine sat_same ?_ | refine sat_impA ?_ | refine sat_need (by first | (decide +kernel) | (have hG : (unG 1).size ≤ 10 := by decide +kernel); (have hG2 : (sgnL.getD (Int.toNat (1 - 1)) ByteArray.empty).size ≤ 10 := by decide +kernel); (simp only [ByteArray.size_append, bsz, List.size_toArray, List.length_cons, List.length_nil]; omega) | first | exact trivial | omega | exact ini (by omega) (by omega) | (intro hh; simp at hh; exact ini (by omega) (by omega)) | (intro hh; simp at hh ⊢; omega) | (simp at *; omega) | (simp_all; done)) ?_)
  refine sat_fn _ (Verbs_ok) rfl ?_
  repeat (first | refine sat_same ?_ | refine sat_impA ?_ | refine sat_need (by first | (decide +kernel) | (have hG : (unG 1).size ≤ 10 := by decide +kernel); (have hG2 : (sgnL.getD (Int.toNat (1 - 1)) ByteArray.empty).size ≤ 10 := by decide +kernel); (simp only [ByteArray.size_append, bsz, List.size_toArray, List.length_cons, List.length_nil]; omega) | first | exact trivial | omega | exact ini (by omega) (by omega) | (intro hh; simp at hh; exact ini (by omega) (by omega)) | (intro hh; simp at hh ⊢; omega) | (simp at *; omega) | (simp_all; done)) ?_)
  refine sat_fn _ ((attempts_ok h v (onB ++ unN 1) [] hh g hvo (by decide)).args ⟨SubP.refl _, SubP.refl _, SubP.refl _, SubP.nilSl rfl, trivial⟩) rfl ?_
  repeat (first | refine sat_same ?_ | refine sat_impA ?_ | refine sat_need (by first | (decide +kernel) | (have hG : (unG 1).size ≤ 10 := by decide +kernel); (have hG2 : (sgnL.getD (Int.toNat (1 - 1)) ByteArray.empty).size ≤ 10 := by decide +kernel); (simp only [ByteArray.size_append, bsz, List.size_toArray, List.length_cons, List.length_nil]; omega) | first | exact trivial | omega | exact ini (by omega) (by omega) | (intro hh; simp at hh; exact ini (by omega) (by omega)) | (intro hh; simp at hh ⊢; omega) | (simp at *; omega) | (simp_all; done)) ?_)
  refine sat_done (exS_normal ?_)
  refine ev_seq ?_
  refine ev_block ?_
  refine ev_seq (ev_region tabT [] 400 rfl ?_)
  refine sat_go ?_
  refine sat_fn _ (IsNumber_ok _) rfl ?_
  refine sat_go ?_
  refine sat_done (exS_normal ?_)
  refine ev_if (fun c3 => ?_) (fun c3 => ?_)
  ·
    refine ev_region tabT [] 500 rfl ?_
    refine sat_go ?_
    refine sat_fn _ (Result_ok _) rfl ?_
    refine sat_go ?_
    refine sat_done (exBl_normal (exS_normal ?_))
    refine ev_R tabT [] 1100 ?_
    refine ev_ret ?_
    exact absurd c3.2 (by decide)
  ·
    refine ev_seq (ev_region tabT [] 600 rfl ?_)
    refine sat_go ?_
    refine sat_fn _ (IsNumber_ok _) rfl ?_
    refine sat_go ?_
    refine sat_done (exS_normal ?_)
    refine ev_if (fun c5 => ?_) (fun c5 => ?_)
    ·
      refine ev_seq (ev_region tabT [] 700 rfl ?_)
      refine sat_go ?_
      refine sat_fn _ (Number7_ok v hg (by omega) hi.dl (by omega)) rfl ?_
      refine sat_go ?_
      refine sat_done (exS_normal ?_)
      refine ev_drawn tabT [] [[], [0], [0, 1], [], [3], [0, 1, 2, 3, 4], [0, 1, 2, 3, 4, 5], [0, 1, 2, 3, 4, 5, 6], [0, 1, 2, 3, 4, 5, 6, 7]] 800 mixT (by kernel_rfl) rfl ?_
      refine sat_go ?_
      refine sat_fn _ (IntMinus_ok _ _) rfl ?_
      refine sat_go ?_
      refine sat_fn _ (number7_ok _ _ _ (by have := dgl hg; omega) (hdd _)) rfl ?_
      refine sat_go ?_
      refine sat_done (exBl_normal (exS_normal ?_))
      refine ev_R tabT [] 1100 ?_
      refine ev_ret ?_
      have e : unS 1 v = (vlS (ngV v), true) := by unfold unS; rw [if_neg (fun hh => absurd hh.1 (by decide)), if_pos ⟨rfl, c5.1⟩]
      exact FinV.ret rfl (SubP.of_eq (by rw [unL, e, if_pos rfl, ← neg_eq c5.1 hok hi.nl hi.dl]; rfl))
    ·
      refine ev_R tabT [] 900 ?_
      refine ev_if (fun c8 => ?_) (fun c8 => ?_)
      ·
        refine ev_region tabT [] 1000 rfl ?_
        refine sat_go ?_
        refine sat_fn _ (I7_ok v hg (by omega)) rfl ?_
        refine sat_go ?_
        refine sat_fn _ (IntMinus_ok _ _) rfl ?_
        refine sat_go ?_
        refine sat_fn _ (Number3_ok (-1) (by omega) (by omega)) rfl ?_
        refine sat_go ?_
        refine sat_fn _ (IntPlus_ok _ true _ 1 (by have := dgl hg; omega) (by decide +kernel)) rfl ?_
        refine sat_go ?_
        refine sat_fn _ (integer7_ok _ _ (by rw [not_doc' (hnz (by simpa using c8.1))]; have := ntl (b := v.nn) hg; omega)) rfl ?_
        refine sat_go ?_
        refine sat_done (exBl_normal (exS_normal ?_))
        refine ev_R tabT [] 1100 ?_
        refine ev_ret ?_
        exact absurd c8.2 (by decide)
      ·
        refine ev_drawn tabT [] [[], [], [1], [0, 1, 2], [0, 1, 2, 3], [0, 1, 2, 3, 4], [0, 1, 2, 3, 4, 5], [], [], [0, 7, 8], [0, 1, 2, 3, 4, 5, 6, 7, 8, 9], [0, 1, 2, 3, 4, 5, 6, 7, 8, 9, 10], [0, 1, 2, 3, 4, 5, 6, 7, 8, 9, 10, 11], [0, 1, 2, 3, 4, 5, 6, 7, 8, 9, 10, 11, 12], [0, 1, 2, 3, 4, 5, 6, 7, 8, 9, 10, 11, 12, 13]] 1000 mixT (by kernel_rfl) rfl ?_
        repeat (first | refine sat_same ?_ | refine sat_impA ?_ | refine sat_need (by first | (decide +kernel) | (have hG : (unG 1).size ≤ 10 := by decide +kernel); (have hG2 : (sgnL.getD (Int.toNat (1 - 1)) ByteArray.empty).size ≤ 10 := by decide +kernel); (simp only [ByteArray.size_append, bsz, List.size_toArray, List.length_cons, List.length_nil]; omega) | first | exact trivial | omega | exact ini (by omega) (by omega) | (intro hh; simp at hh; exact ini (by omega) (by omega)) | (intro hh; simp at hh ⊢; omega) | (simp at *; omega) | (simp_all; done)) ?_)
        refine sat_fn _ (Signs_ok) rfl ?_
        repeat (first | refine sat_same ?_ | refine sat_impA ?_ | refine sat_need (by first | (decide +kernel) | (have hG : (unG 1).size ≤ 10 := by decide +kernel); (have hG2 : (sgnL.getD (Int.toNat (1 - 1)) ByteArray.empty).size ≤ 10 := by decide +kernel); (simp only [ByteArray.size_append, bsz, List.size_toArray, List.length_cons, List.length_nil]; omega) | first | exact trivial | omega | exact ini (by omega) (by omega) | (intro hh; simp at hh; exact ini (by omega) (by omega)) | (intro hh; simp at hh ⊢; omega) | (simp at *; omega) | (simp_all; done)) ?_)
        refine sat_fn _ (ClassName_ok h v g hcf) rfl ?_
        repeat (first | refine sat_same ?_ | refine sat_impA ?_ | refine sat_need (by first | (decide +kernel) | (have hG : (unG 1).size ≤ 10 := by decide +kernel); (have hG2 : (sgnL.getD (Int.toNat (1 - 1)) ByteArray.empty).size ≤ 10 := by decide +kernel); (simp only [ByteArray.size_append, bsz, List.size_toArray, List.length_cons, List.length_nil]; omega) | first | exact trivial | omega | exact ini (by omega) (by omega) | (intro hh; simp at hh; exact ini (by omega) (by omega)) | (intro hh; simp at hh ⊢; omega) | (simp at *; omega) | (simp_all; done)) ?_)
        refine sat_fn _ (Raise_ok 32 (unT h 1 v)) rfl ?_
        repeat (first | refine sat_same ?_ | refine sat_impA ?_ | refine sat_need (by first | (decide +kernel) | (have hG : (unG 1).size ≤ 10 := by decide +kernel); (have hG2 : (sgnL.getD (Int.toNat (1 - 1)) ByteArray.empty).size ≤ 10 := by decide +kernel); (simp only [ByteArray.size_append, bsz, List.size_toArray, List.length_cons, List.length_nil]; omega) | first | exact trivial | omega | exact ini (by omega) (by omega) | (intro hh; simp at hh; exact ini (by omega) (by omega)) | (intro hh; simp at hh ⊢; omega) | (simp at *; omega) | (simp_all; done)) ?_)
        refine sat_done (exBl_normal (exS_normal ?_))
        refine ev_R tabT [] 1100 ?_
        refine ev_ret ?_
        have e : unS 1 v = (st0, false) := by unfold unS; rw [if_neg (fun hh => absurd hh.1 (by decide)), if_neg (fun hh => by have := hh.2; simp_all), if_neg (fun hh => absurd hh.1 (by decide))]
        exact FinV.ret rfl (SubP.of_eq (by rw [unL, e, if_neg (by decide)]; rfl))
set_option maxHeartbeats 1000000 in
theorem opUn2 (h : List Ob) (v : Vl) (hh : HpIn h) (g : Uh h) (hi : VlIn v) (hs : hasS h v = true) : Fn Tryz.prog 7 [hpP me md h, .v (.int .i64 2), .agg (vlD v)] (plnD (attS h v (onB ++ unN 2) []) (unL h 2 v)) := by
  have hvo := has_obj hs
  have hcf := cf_of g hs
  have hl := vl_in hi
  have hg := hi.nl
  have hok := has_vok hs
  have hnm := (hh.at (clA h v)).nm
  have hdd : ∀ c : Prop, ∀ [Decidable c], (dig (if c then VL v.dl else 1)).length ≤ 100000000 := fun c _ => by split; (have := dgl hi.dl; omega); decide +kernel
  have hnz : v.k = 2 → v.nn = true → 0 < VL v.nl := fun hk => (num_ok hg hok (.inl hk)).2.2
  refine fn_ev tabT Tryz.func7 rfl rfl rfl rfl rfl rfl ?_
  intro w0 s0 mx
  refine ev_R tabT [] 100 ?_
  refine ev_seq (ev_region tabT [] 200 rfl ?_)
  refine sat_go ?_
  refine sat_fn _ (unaries_ok) rfl ?_
  refine sat_go ?_
  refine sat_done (exS_normal ?_)
  refine ev_seq (ev_drawn tabT [] [[], [0], [0, 1], [], [], [4], [4, 5], [0, 1, 2, 3, 4, 5, 6], [0, 1, 2, 3, 4, 5, 6, 7], [], [0, 1, 2, 3, 4, 5, 6, 7, 8, 9]] 300 mixT (by kernel_rfl) rfl ?_)
  repeat (first | refine sat_same ?_ | refine sat_impA ?_ | refine sat_need (by first | (decide +kernel) | (have hG : (unG 2).size ≤ 10 := by decide +kernel); (have hG2 : (sgnL.getD (Int.toNat (2 - 1)) ByteArray.empty).size ≤ 10 := by decide +kernel); (simp only [ByteArray.size_append, bsz, List.size_toArray, List.length_cons, List.length_nil]; omega) | first | exact trivial | omega | exact ini (by omega) (by omega) | (intro hh; simp at hh; exact ini (by omega) (by omega)) | (intro hh; simp at hh ⊢; omega) | (simp at *; omega) | (simp_all; done)) ?_)
  refine sat_fn _ ((opAttempt_ok h v (onB ++ unN 2) [] hh g hvo (by decide)).args ⟨SubP.refl _, SubP.refl _, SubP.refl _, SubP.nilSl rfl, trivial⟩) rfl ?_
  repeat (first | refine sat_same ?_ | refine sat_impA ?_ | refine sat_need (by first | (decide +kernel) | (have hG : (unG 2).size ≤ 10 := by decide +kernel); (have hG2 : (sgnL.getD (Int.toNat (2 - 1)) ByteArray.empty).size ≤ 10 := by decide +kernel); (simp only [ByteArray.size_append, bsz, List.size_toArray, List.length_cons, List.length_nil]; omega) | first | exact trivial | omega | exact ini (by omega) (by omega) | (intro hh; simp at hh; exact ini (by omega) (by omega)) | (intro hh; simp at hh ⊢; omega) | (simp at *; omega) | (simp_all; done)) ?_)
  refine sat_done (exS_normal ?_)
  refine ev_seq ?_
  refine ev_seq (ev_region tabT [] 400 rfl ?_)
  refine sat_go ?_
  refine sat_fn _ (opUnary_ok 2 v hg hok) rfl ?_
  refine sat_go ?_
  refine sat_done (exS_normal ?_)
  refine ev_R tabT [] 500 ?_
  refine ev_if (fun c4 => ?_) (fun c4 => ?_)
  ·
    refine ev_Q tabT [] 600 ?_
    refine exS_normal ?_
    refine ev_R tabT [] 800 ?_
    refine ev_ret ?_
    exact FinV.ret rfl (SubP.of_eq (by rw [unL, if_pos (by simpa using c4)]; rfl))
  ·
    refine ev_drawn tabT [] [[], [0], [0, 1], [0, 1, 2], [], [4], [4, 5], [], [4, 5, 6, 7], [0, 1, 2, 3, 4, 5, 6, 7, 8], [0, 1, 2, 3, 4, 5, 6, 7, 8, 9], [0, 1, 2, 3, 4, 5, 6, 7, 8, 9, 10], [0, 1, 2, 3, 4, 5, 6, 7, 8, 9, 10, 11], [0, 1, 2, 3, 4, 5, 6, 7, 8, 9, 10, 11, 12]] 700 mixT (by kernel_rfl) rfl ?_
    repeat (first | refine sat_same ?_ | refine sat_impA ?_ | refine sat_need (by first | (decide +kernel) | (have hG : (unG 2).size ≤ 10 := by decide +kernel); (have hG2 : (sgnL.getD (Int.toNat (2 - 1)) ByteArray.empty).size ≤ 10 := by decide +kernel); (simp only [ByteArray.size_append, bsz, List.size_toArray, List.length_cons, List.length_nil]; omega) | first | exact trivial | omega | exact ini (by omega) (by omega) | (intro hh; simp at hh; exact ini (by omega) (by omega)) | (intro hh; simp at hh ⊢; omega) | (simp at *; omega) | (simp_all; done)) ?_)
    refine sat_fn _ (heapName_ok h v g hcf) rfl ?_
    repeat (first | refine sat_same ?_ | refine sat_impA ?_ | refine sat_need (by first | (decide +kernel) | (have hG : (unG 2).size ≤ 10 := by decide +kernel); (have hG2 : (sgnL.getD (Int.toNat (2 - 1)) ByteArray.empty).size ≤ 10 := by decide +kernel); (simp only [ByteArray.size_append, bsz, List.size_toArray, List.length_cons, List.length_nil]; omega) | first | exact trivial | omega | exact ini (by omega) (by omega) | (intro hh; simp at hh; exact ini (by omega) (by omega)) | (intro hh; simp at hh ⊢; omega) | (simp at *; omega) | (simp_all; done)) ?_)
    refine sat_fn _ (opRaise_ok 32 (unT h 2 v)) rfl ?_
    repeat (first | refine sat_same ?_ | refine sat_impA ?_ | refine sat_need (by first | (decide +kernel) | (have hG : (unG 2).size ≤ 10 := by decide +kernel); (have hG2 : (sgnL.getD (Int.toNat (2 - 1)) ByteArray.empty).size ≤ 10 := by decide +kernel); (simp only [ByteArray.size_append, bsz, List.size_toArray, List.length_cons, List.length_nil]; omega) | first | exact trivial | omega | exact ini (by omega) (by omega) | (intro hh; simp at hh; exact ini (by omega) (by omega)) | (intro hh; simp at hh ⊢; omega) | (simp at *; omega) | (simp_all; done)) ?_)
    refine sat_done (exS_normal ?_)
    refine ev_R tabT [] 800 ?_
    refine ev_ret ?_
    exact FinV.ret rfl (SubP.of_eq (by rw [unL, if_neg (by simpa using c4)]; rfl))
set_option maxHeartbeats 1000000 in
theorem rfUn2 (h : List Ob) (v : Vl) (hh : HpIn h) (g : Uh h) (hi : VlIn v) (hs : hasS h v = true) : Fn Tryz.prog 8 [hpD md h, .v (.int .i64 2), .agg (vlD v)] (plnD (attS h v (onB ++ unN 2) []) (unL h 2 v)) := by
  have hvo := has_obj hs
  have hcf := cf_of g hs
  have hl := vl_in hi
  have hg := hi.nl
  have hok := has_vok hs
  have hnm := (hh.at (clA h v)).nm
  have hdd : ∀ c : Prop, ∀ [Decidable c], (dig (if c then VL v.dl else 1)).length ≤ 100000000 := fun c _ => by split; (have := dgl hi.dl; omega); decide +kernel
  have hnz : v.k = 2 → v.nn = true → 0 < VL v.nl := fun hk => (num_ok hg hok (.inl hk)).2.2
  refine fn_ev tabT Tryz.func8 rfl rfl rfl rfl rfl rfl ?_
  intro w0 s0 mx
  refine ev_R tabT [] 100 ?_
  refine ev_seq (ev_drawn tabT [] [[], [], [], [], [3], [2, 3, 4], [2, 3, 4, 5], [2, 3, 4, 5, 6], [0, 1, 2, 3, 4, 5, 6, 7], [0, 1, 2, 3, 4, 5, 6, 7, 8], [], [0, 1, 2, 3, 4, 5, 6, 7, 8, 9, 10]] 200 mixT (by kernel_rfl) rfl ?_)
  repeat (first | refine sat_same ?_ | refine sat_impA ?_ | refine sat_need (by first | (decide +kernel) | (have hG : (unG 2).size ≤ 10 := by decide +kernel); (have hG2 : (sgnL.getD (Int.toNat (2 - 1)) ByteArray.empty).size ≤ 10 := by decide +kernel); (simp only [ByteArray.size_append, bsz, List.size_toArray, List.length_cons, List.length_nil]; omega) | first | exact trivial | omega | exact ini (by omega) (by omega) | (intro hh; simp at hh; exact ini (by omega) (by omega)) | (intro hh; simp at hh ⊢; omega) | (simp at *; omega) | (simp_all; done)) ?_)
  refine sat_fn _ (Verbs_ok) rfl ?_
  repeat (first | refine sat_same ?_ | refine sat_impA ?_ | refine sat_need (by first | (decide +kernel) | (have hG : (unG 2).size ≤ 10 := by decide +kernel); (have hG2 : (sgnL.getD (Int.toNat (2 - 1)) ByteArray.empty).size ≤ 10 := by decide +kernel); (simp only [ByteArray.size_append, bsz, List.size_toArray, List.length_cons, List.length_nil]; omega) | first | exact trivial | omega | exact ini (by omega) (by omega) | (intro hh; simp at hh; exact ini (by omega) (by omega)) | (intro hh; simp at hh ⊢; omega) | (simp at *; omega) | (simp_all; done)) ?_)
  refine sat_fn _ ((attempts_ok h v (onB ++ unN 2) [] hh g hvo (by decide)).args ⟨SubP.refl _, SubP.refl _, SubP.refl _, SubP.nilSl rfl, trivial⟩) rfl ?_
  repeat (first | refine sat_same ?_ | refine sat_impA ?_ | refine sat_need (by first | (decide +kernel) | (have hG : (unG 2).size ≤ 10 := by decide +kernel); (have hG2 : (sgnL.getD (Int.toNat (2 - 1)) ByteArray.empty).size ≤ 10 := by decide +kernel); (simp only [ByteArray.size_append, bsz, List.size_toArray, List.length_cons, List.length_nil]; omega) | first | exact trivial | omega | exact ini (by omega) (by omega) | (intro hh; simp at hh; exact ini (by omega) (by omega)) | (intro hh; simp at hh ⊢; omega) | (simp at *; omega) | (simp_all; done)) ?_)
  refine sat_done (exS_normal ?_)
  refine ev_seq ?_
  refine ev_block ?_
  refine ev_seq (ev_region tabT [] 400 rfl ?_)
  refine sat_go ?_
  refine sat_fn _ (IsNumber_ok _) rfl ?_
  refine sat_go ?_
  refine sat_done (exS_normal ?_)
  refine ev_if (fun c3 => ?_) (fun c3 => ?_)
  ·
    refine ev_region tabT [] 500 rfl ?_
    refine sat_go ?_
    refine sat_fn _ (Result_ok _) rfl ?_
    refine sat_go ?_
    refine sat_done (exBl_normal (exS_normal ?_))
    refine ev_R tabT [] 1100 ?_
    refine ev_ret ?_
    have e : unS 2 v = (vlS v, true) := by unfold unS; rw [if_pos ⟨rfl, c3.1⟩]
    exact FinV.ret rfl (SubP.of_eq (by rw [unL, e, if_pos rfl]; rfl))
  ·
    refine ev_seq (ev_region tabT [] 600 rfl ?_)
    refine sat_go ?_
    refine sat_fn _ (IsNumber_ok _) rfl ?_
    refine sat_go ?_
    refine sat_done (exS_normal ?_)
    refine ev_if (fun c5 => ?_) (fun c5 => ?_)
    ·
      refine ev_seq (ev_region tabT [] 700 rfl ?_)
      refine sat_go ?_
      refine sat_fn _ (Number7_ok v hg (by omega) hi.dl (by omega)) rfl ?_
      refine sat_go ?_
      refine sat_done (exS_normal ?_)
      refine ev_drawn tabT [] [[], [0], [0, 1], [], [3], [0, 1, 2, 3, 4], [0, 1, 2, 3, 4, 5], [0, 1, 2, 3, 4, 5, 6], [0, 1, 2, 3, 4, 5, 6, 7]] 800 mixT (by kernel_rfl) rfl ?_
      refine sat_go ?_
      refine sat_fn _ (IntMinus_ok _ _) rfl ?_
      refine sat_go ?_
      refine sat_fn _ (number7_ok _ _ _ (by have := dgl hg; omega) (hdd _)) rfl ?_
      refine sat_go ?_
      refine sat_done (exBl_normal (exS_normal ?_))
      refine ev_R tabT [] 1100 ?_
      refine ev_ret ?_
      exact absurd c5.2 (by decide)
    ·
      refine ev_R tabT [] 900 ?_
      refine ev_if (fun c8 => ?_) (fun c8 => ?_)
      ·
        refine ev_region tabT [] 1000 rfl ?_
        refine sat_go ?_
        refine sat_fn _ (I7_ok v hg (by omega)) rfl ?_
        refine sat_go ?_
        refine sat_fn _ (IntMinus_ok _ _) rfl ?_
        refine sat_go ?_
        refine sat_fn _ (Number3_ok (-1) (by omega) (by omega)) rfl ?_
        refine sat_go ?_
        refine sat_fn _ (IntPlus_ok _ true _ 1 (by have := dgl hg; omega) (by decide +kernel)) rfl ?_
        refine sat_go ?_
        refine sat_fn _ (integer7_ok _ _ (by rw [not_doc' (hnz (by simpa using c8.1))]; have := ntl (b := v.nn) hg; omega)) rfl ?_
        refine sat_go ?_
        refine sat_done (exBl_normal (exS_normal ?_))
        refine ev_R tabT [] 1100 ?_
        refine ev_ret ?_
        exact absurd c8.2 (by decide)
      ·
        refine ev_drawn tabT [] [[], [], [1], [0, 1, 2], [0, 1, 2, 3], [0, 1, 2, 3, 4], [0, 1, 2, 3, 4, 5], [], [], [0, 7, 8], [0, 1, 2, 3, 4, 5, 6, 7, 8, 9], [0, 1, 2, 3, 4, 5, 6, 7, 8, 9, 10], [0, 1, 2, 3, 4, 5, 6, 7, 8, 9, 10, 11], [0, 1, 2, 3, 4, 5, 6, 7, 8, 9, 10, 11, 12], [0, 1, 2, 3, 4, 5, 6, 7, 8, 9, 10, 11, 12, 13]] 1000 mixT (by kernel_rfl) rfl ?_
        repeat (first | refine sat_same ?_ | refine sat_impA ?_ | refine sat_need (by first | (decide +kernel) | (have hG : (unG 2).size ≤ 10 := by decide +kernel); (have hG2 : (sgnL.getD (Int.toNat (2 - 1)) ByteArray.empty).size ≤ 10 := by decide +kernel); (simp only [ByteArray.size_append, bsz, List.size_toArray, List.length_cons, List.length_nil]; omega) | first | exact trivial | omega | exact ini (by omega) (by omega) | (intro hh; simp at hh; exact ini (by omega) (by omega)) | (intro hh; simp at hh ⊢; omega) | (simp at *; omega) | (simp_all; done)) ?_)
        refine sat_fn _ (Signs_ok) rfl ?_
        repeat (first | refine sat_same ?_ | refine sat_impA ?_ | refine sat_need (by first | (decide +kernel) | (have hG : (unG 2).size ≤ 10 := by decide +kernel); (have hG2 : (sgnL.getD (Int.toNat (2 - 1)) ByteArray.empty).size ≤ 10 := by decide +kernel); (simp only [ByteArray.size_append, bsz, List.size_toArray, List.length_cons, List.length_nil]; omega) | first | exact trivial | omega | exact ini (by omega) (by omega) | (intro hh; simp at hh; exact ini (by omega) (by omega)) | (intro hh; simp at hh ⊢; omega) | (simp at *; omega) | (simp_all; done)) ?_)
        refine sat_fn _ (ClassName_ok h v g hcf) rfl ?_
        repeat (first | refine sat_same ?_ | refine sat_impA ?_ | refine sat_need (by first | (decide +kernel) | (have hG : (unG 2).size ≤ 10 := by decide +kernel); (have hG2 : (sgnL.getD (Int.toNat (2 - 1)) ByteArray.empty).size ≤ 10 := by decide +kernel); (simp only [ByteArray.size_append, bsz, List.size_toArray, List.length_cons, List.length_nil]; omega) | first | exact trivial | omega | exact ini (by omega) (by omega) | (intro hh; simp at hh; exact ini (by omega) (by omega)) | (intro hh; simp at hh ⊢; omega) | (simp at *; omega) | (simp_all; done)) ?_)
        refine sat_fn _ (Raise_ok 32 (unT h 2 v)) rfl ?_
        repeat (first | refine sat_same ?_ | refine sat_impA ?_ | refine sat_need (by first | (decide +kernel) | (have hG : (unG 2).size ≤ 10 := by decide +kernel); (have hG2 : (sgnL.getD (Int.toNat (2 - 1)) ByteArray.empty).size ≤ 10 := by decide +kernel); (simp only [ByteArray.size_append, bsz, List.size_toArray, List.length_cons, List.length_nil]; omega) | first | exact trivial | omega | exact ini (by omega) (by omega) | (intro hh; simp at hh; exact ini (by omega) (by omega)) | (intro hh; simp at hh ⊢; omega) | (simp at *; omega) | (simp_all; done)) ?_)
        refine sat_done (exBl_normal (exS_normal ?_))
        refine ev_R tabT [] 1100 ?_
        refine ev_ret ?_
        have e : unS 2 v = (st0, false) := by unfold unS; rw [if_neg (fun hh => by have := hh.2; simp_all), if_neg (fun hh => absurd hh.1 (by decide)), if_neg (fun hh => absurd hh.1 (by decide))]
        exact FinV.ret rfl (SubP.of_eq (by rw [unL, e, if_neg (by decide)]; rfl))
set_option maxHeartbeats 1000000 in
theorem opUn3 (h : List Ob) (v : Vl) (hh : HpIn h) (g : Uh h) (hi : VlIn v) (hs : hasS h v = true) : Fn Tryz.prog 7 [hpP me md h, .v (.int .i64 3), .agg (vlD v)] (plnD (attS h v (onB ++ unN 3) []) (unL h 3 v)) := by
  have hvo := has_obj hs
  have hcf := cf_of g hs
  have hl := vl_in hi
  have hg := hi.nl
  have hok := has_vok hs
  have hnm := (hh.at (clA h v)).nm
  have hdd : ∀ c : Prop, ∀ [Decidable c], (dig (if c then VL v.dl else 1)).length ≤ 100000000 := fun c _ => by split; (have := dgl hi.dl; omega); decide +kernel
  have hnz : v.k = 2 → v.nn = true → 0 < VL v.nl := fun hk => (num_ok hg hok (.inl hk)).2.2
  refine fn_ev tabT Tryz.func7 rfl rfl rfl rfl rfl rfl ?_
  intro w0 s0 mx
  refine ev_R tabT [] 100 ?_
  refine ev_seq (ev_region tabT [] 200 rfl ?_)
  refine sat_go ?_
  refine sat_fn _ (unaries_ok) rfl ?_
  refine sat_go ?_
  refine sat_done (exS_normal ?_)
  refine ev_seq (ev_drawn tabT [] [[], [0], [0, 1], [], [], [4], [4, 5], [0, 1, 2, 3, 4, 5, 6], [0, 1, 2, 3, 4, 5, 6, 7], [], [0, 1, 2, 3, 4, 5, 6, 7, 8, 9]] 300 mixT (by kernel_rfl) rfl ?_)
  repeat (first | refine sat_same ?_ | refine sat_impA ?_ | refine sat_need (by first | (decide +kernel) | (have hG : (unG 3).size ≤ 10 := by decide +kernel); (have hG2 : (sgnL.getD (Int.toNat (3 - 1)) ByteArray.empty).size ≤ 10 := by decide +kernel); (simp only [ByteArray.size_append, bsz, List.size_toArray, List.length_cons, List.length_nil]; omega) | first | exact trivial | omega | exact ini (by omega) (by omega) | (intro hh; simp at hh; exact ini (by omega) (by omega)) | (intro hh; simp at hh ⊢; omega) | (simp at *; omega) | (simp_all; done)) ?_)
  refine sat_fn _ ((opAttempt_ok h v (onB ++ unN 3) [] hh g hvo (by decide)).args ⟨SubP.refl _, SubP.refl _, SubP.refl _, SubP.nilSl rfl, trivial⟩) rfl ?_
  repeat (first | refine sat_same ?_ | refine sat_impA ?_ | refine sat_need (by first | (decide +kernel) | (have hG : (unG 3).size ≤ 10 := by decide +kernel); (have hG2 : (sgnL.getD (Int.toNat (3 - 1)) ByteArray.empty).size ≤ 10 := by decide +kernel); (simp only [ByteArray.size_append, bsz, List.size_toArray, List.length_cons, List.length_nil]; omega) | first | exact trivial | omega | exact ini (by omega) (by omega) | (intro hh; simp at hh; exact ini (by omega) (by omega)) | (intro hh; simp at hh ⊢; omega) | (simp at *; omega) | (simp_all; done)) ?_)
  refine sat_done (exS_normal ?_)
  refine ev_seq ?_
  refine ev_seq (ev_region tabT [] 400 rfl ?_)
  refine sat_go ?_
  refine sat_fn _ (opUnary_ok 3 v hg hok) rfl ?_
  refine sat_go ?_
  refine sat_done (exS_normal ?_)
  refine ev_R tabT [] 500 ?_
  refine ev_if (fun c4 => ?_) (fun c4 => ?_)
  ·
    refine ev_Q tabT [] 600 ?_
    refine exS_normal ?_
    refine ev_R tabT [] 800 ?_
    refine ev_ret ?_
    exact FinV.ret rfl (SubP.of_eq (by rw [unL, if_pos (by simpa using c4)]; rfl))
  ·
    refine ev_drawn tabT [] [[], [0], [0, 1], [0, 1, 2], [], [4], [4, 5], [], [4, 5, 6, 7], [0, 1, 2, 3, 4, 5, 6, 7, 8], [0, 1, 2, 3, 4, 5, 6, 7, 8, 9], [0, 1, 2, 3, 4, 5, 6, 7, 8, 9, 10], [0, 1, 2, 3, 4, 5, 6, 7, 8, 9, 10, 11], [0, 1, 2, 3, 4, 5, 6, 7, 8, 9, 10, 11, 12]] 700 mixT (by kernel_rfl) rfl ?_
    repeat (first | refine sat_same ?_ | refine sat_impA ?_ | refine sat_need (by first | (decide +kernel) | (have hG : (unG 3).size ≤ 10 := by decide +kernel); (have hG2 : (sgnL.getD (Int.toNat (3 - 1)) ByteArray.empty).size ≤ 10 := by decide +kernel); (simp only [ByteArray.size_append, bsz, List.size_toArray, List.length_cons, List.length_nil]; omega) | first | exact trivial | omega | exact ini (by omega) (by omega) | (intro hh; simp at hh; exact ini (by omega) (by omega)) | (intro hh; simp at hh ⊢; omega) | (simp at *; omega) | (simp_all; done)) ?_)
    refine sat_fn _ (heapName_ok h v g hcf) rfl ?_
    repeat (first | refine sat_same ?_ | refine sat_impA ?_ | refine sat_need (by first | (decide +kernel) | (have hG : (unG 3).size ≤ 10 := by decide +kernel); (have hG2 : (sgnL.getD (Int.toNat (3 - 1)) ByteArray.empty).size ≤ 10 := by decide +kernel); (simp only [ByteArray.size_append, bsz, List.size_toArray, List.length_cons, List.length_nil]; omega) | first | exact trivial | omega | exact ini (by omega) (by omega) | (intro hh; simp at hh; exact ini (by omega) (by omega)) | (intro hh; simp at hh ⊢; omega) | (simp at *; omega) | (simp_all; done)) ?_)
    refine sat_fn _ (opRaise_ok 32 (unT h 3 v)) rfl ?_
    repeat (first | refine sat_same ?_ | refine sat_impA ?_ | refine sat_need (by first | (decide +kernel) | (have hG : (unG 3).size ≤ 10 := by decide +kernel); (have hG2 : (sgnL.getD (Int.toNat (3 - 1)) ByteArray.empty).size ≤ 10 := by decide +kernel); (simp only [ByteArray.size_append, bsz, List.size_toArray, List.length_cons, List.length_nil]; omega) | first | exact trivial | omega | exact ini (by omega) (by omega) | (intro hh; simp at hh; exact ini (by omega) (by omega)) | (intro hh; simp at hh ⊢; omega) | (simp at *; omega) | (simp_all; done)) ?_)
    refine sat_done (exS_normal ?_)
    refine ev_R tabT [] 800 ?_
    refine ev_ret ?_
    exact FinV.ret rfl (SubP.of_eq (by rw [unL, if_neg (by simpa using c4)]; rfl))
set_option maxHeartbeats 1000000 in
theorem rfUn3 (h : List Ob) (v : Vl) (hh : HpIn h) (g : Uh h) (hi : VlIn v) (hs : hasS h v = true) : Fn Tryz.prog 8 [hpD md h, .v (.int .i64 3), .agg (vlD v)] (plnD (attS h v (onB ++ unN 3) []) (unL h 3 v)) := by
  have hvo := has_obj hs
  have hcf := cf_of g hs
  have hl := vl_in hi
  have hg := hi.nl
  have hok := has_vok hs
  have hnm := (hh.at (clA h v)).nm
  have hdd : ∀ c : Prop, ∀ [Decidable c], (dig (if c then VL v.dl else 1)).length ≤ 100000000 := fun c _ => by split; (have := dgl hi.dl; omega); decide +kernel
  have hnz : v.k = 2 → v.nn = true → 0 < VL v.nl := fun hk => (num_ok hg hok (.inl hk)).2.2
  refine fn_ev tabT Tryz.func8 rfl rfl rfl rfl rfl rfl ?_
  intro w0 s0 mx
  refine ev_R tabT [] 100 ?_
  refine ev_seq (ev_drawn tabT [] [[], [], [], [], [3], [2, 3, 4], [2, 3, 4, 5], [2, 3, 4, 5, 6], [0, 1, 2, 3, 4, 5, 6, 7], [0, 1, 2, 3, 4, 5, 6, 7, 8], [], [0, 1, 2, 3, 4, 5, 6, 7, 8, 9, 10]] 200 mixT (by kernel_rfl) rfl ?_)
  repeat (first | refine sat_same ?_ | refine sat_impA ?_ | refine sat_need (by first | (decide +kernel) | (have hG : (unG 3).size ≤ 10 := by decide +kernel); (have hG2 : (sgnL.getD (Int.toNat (3 - 1)) ByteArray.empty).size ≤ 10 := by decide +kernel); (simp only [ByteArray.size_append, bsz, List.size_toArray, List.length_cons, List.length_nil]; omega) | first | exact trivial | omega | exact ini (by omega) (by omega) | (intro hh; simp at hh; exact ini (by omega) (by omega)) | (intro hh; simp at hh ⊢; omega) | (simp at *; omega) | (simp_all; done)) ?_)
  refine sat_fn _ (Verbs_ok) rfl ?_
  repeat (first | refine sat_same ?_ | refine sat_impA ?_ | refine sat_need (by first | (decide +kernel) | (have hG : (unG 3).size ≤ 10 := by decide +kernel); (have hG2 : (sgnL.getD (Int.toNat (3 - 1)) ByteArray.empty).size ≤ 10 := by decide +kernel); (simp only [ByteArray.size_append, bsz, List.size_toArray, List.length_cons, List.length_nil]; omega) | first | exact trivial | omega | exact ini (by omega) (by omega) | (intro hh; simp at hh; exact ini (by omega) (by omega)) | (intro hh; simp at hh ⊢; omega) | (simp at *; omega) | (simp_all; done)) ?_)
  refine sat_fn _ ((attempts_ok h v (onB ++ unN 3) [] hh g hvo (by decide)).args ⟨SubP.refl _, SubP.refl _, SubP.refl _, SubP.nilSl rfl, trivial⟩) rfl ?_
  repeat (first | refine sat_same ?_ | refine sat_impA ?_ | refine sat_need (by first | (decide +kernel) | (have hG : (unG 3).size ≤ 10 := by decide +kernel); (have hG2 : (sgnL.getD (Int.toNat (3 - 1)) ByteArray.empty).size ≤ 10 := by decide +kernel); (simp only [ByteArray.size_append, bsz, List.size_toArray, List.length_cons, List.length_nil]; omega) | first | exact trivial | omega | exact ini (by omega) (by omega) | (intro hh; simp at hh; exact ini (by omega) (by omega)) | (intro hh; simp at hh ⊢; omega) | (simp at *; omega) | (simp_all; done)) ?_)
  refine sat_done (exS_normal ?_)
  refine ev_seq ?_
  refine ev_block ?_
  refine ev_seq (ev_region tabT [] 400 rfl ?_)
  refine sat_go ?_
  refine sat_fn _ (IsNumber_ok _) rfl ?_
  refine sat_go ?_
  refine sat_done (exS_normal ?_)
  refine ev_if (fun c3 => ?_) (fun c3 => ?_)
  ·
    refine ev_region tabT [] 500 rfl ?_
    refine sat_go ?_
    refine sat_fn _ (Result_ok _) rfl ?_
    refine sat_go ?_
    refine sat_done (exBl_normal (exS_normal ?_))
    refine ev_R tabT [] 1100 ?_
    refine ev_ret ?_
    exact absurd c3.2 (by decide)
  ·
    refine ev_seq (ev_region tabT [] 600 rfl ?_)
    refine sat_go ?_
    refine sat_fn _ (IsNumber_ok _) rfl ?_
    refine sat_go ?_
    refine sat_done (exS_normal ?_)
    refine ev_if (fun c5 => ?_) (fun c5 => ?_)
    ·
      refine ev_seq (ev_region tabT [] 700 rfl ?_)
      refine sat_go ?_
      refine sat_fn _ (Number7_ok v hg (by omega) hi.dl (by omega)) rfl ?_
      refine sat_go ?_
      refine sat_done (exS_normal ?_)
      refine ev_drawn tabT [] [[], [0], [0, 1], [], [3], [0, 1, 2, 3, 4], [0, 1, 2, 3, 4, 5], [0, 1, 2, 3, 4, 5, 6], [0, 1, 2, 3, 4, 5, 6, 7]] 800 mixT (by kernel_rfl) rfl ?_
      refine sat_go ?_
      refine sat_fn _ (IntMinus_ok _ _) rfl ?_
      refine sat_go ?_
      refine sat_fn _ (number7_ok _ _ _ (by have := dgl hg; omega) (hdd _)) rfl ?_
      refine sat_go ?_
      refine sat_done (exBl_normal (exS_normal ?_))
      refine ev_R tabT [] 1100 ?_
      refine ev_ret ?_
      exact absurd c5.2 (by decide)
    ·
      refine ev_R tabT [] 900 ?_
      refine ev_if (fun c8 => ?_) (fun c8 => ?_)
      ·
        refine ev_region tabT [] 1000 rfl ?_
        refine sat_go ?_
        refine sat_fn _ (I7_ok v hg (by omega)) rfl ?_
        refine sat_go ?_
        refine sat_fn _ (IntMinus_ok _ _) rfl ?_
        refine sat_go ?_
        refine sat_fn _ (Number3_ok (-1) (by omega) (by omega)) rfl ?_
        refine sat_go ?_
        refine sat_fn _ (IntPlus_ok _ true _ 1 (by have := dgl hg; omega) (by decide +kernel)) rfl ?_
        refine sat_go ?_
        refine sat_fn _ (integer7_ok _ _ (by rw [not_doc' (hnz (by simpa using c8.1))]; have := ntl (b := v.nn) hg; omega)) rfl ?_
        refine sat_go ?_
        refine sat_done (exBl_normal (exS_normal ?_))
        refine ev_R tabT [] 1100 ?_
        refine ev_ret ?_
        have e : unS 3 v = (ntS v.nn v.nl, true) := by unfold unS; rw [if_neg (fun hh => absurd hh.1 (by decide)), if_neg (fun hh => absurd hh.1 (by decide)), if_pos ⟨rfl, c8.1⟩]
        exact FinV.ret rfl (SubP.of_eq (by rw [unL, e, if_pos rfl, ntS, ← not_doc' (hnz c8.1)]; rfl))
      ·
        refine ev_drawn tabT [] [[], [], [1], [0, 1, 2], [0, 1, 2, 3], [0, 1, 2, 3, 4], [0, 1, 2, 3, 4, 5], [], [], [0, 7, 8], [0, 1, 2, 3, 4, 5, 6, 7, 8, 9], [0, 1, 2, 3, 4, 5, 6, 7, 8, 9, 10], [0, 1, 2, 3, 4, 5, 6, 7, 8, 9, 10, 11], [0, 1, 2, 3, 4, 5, 6, 7, 8, 9, 10, 11, 12], [0, 1, 2, 3, 4, 5, 6, 7, 8, 9, 10, 11, 12, 13]] 1000 mixT (by kernel_rfl) rfl ?_
        repeat (first | refine sat_same ?_ | refine sat_impA ?_ | refine sat_need (by first | (decide +kernel) | (have hG : (unG 3).size ≤ 10 := by decide +kernel); (have hG2 : (sgnL.getD (Int.toNat (3 - 1)) ByteArray.empty).size ≤ 10 := by decide +kernel); (simp only [ByteArray.size_append, bsz, List.size_toArray, List.length_cons, List.length_nil]; omega) | first | exact trivial | omega | exact ini (by omega) (by omega) | (intro hh; simp at hh; exact ini (by omega) (by omega)) | (intro hh; simp at hh ⊢; omega) | (simp at *; omega) | (simp_all; done)) ?_)
        refine sat_fn _ (Signs_ok) rfl ?_
        repeat (first | refine sat_same ?_ | refine sat_impA ?_ | refine sat_need (by first | (decide +kernel) | (have hG : (unG 3).size ≤ 10 := by decide +kernel); (have hG2 : (sgnL.getD (Int.toNat (3 - 1)) ByteArray.empty).size ≤ 10 := by decide +kernel); (simp only [ByteArray.size_append, bsz, List.size_toArray, List.length_cons, List.length_nil]; omega) | first | exact trivial | omega | exact ini (by omega) (by omega) | (intro hh; simp at hh; exact ini (by omega) (by omega)) | (intro hh; simp at hh ⊢; omega) | (simp at *; omega) | (simp_all; done)) ?_)
        refine sat_fn _ (ClassName_ok h v g hcf) rfl ?_
        repeat (first | refine sat_same ?_ | refine sat_impA ?_ | refine sat_need (by first | (decide +kernel) | (have hG : (unG 3).size ≤ 10 := by decide +kernel); (have hG2 : (sgnL.getD (Int.toNat (3 - 1)) ByteArray.empty).size ≤ 10 := by decide +kernel); (simp only [ByteArray.size_append, bsz, List.size_toArray, List.length_cons, List.length_nil]; omega) | first | exact trivial | omega | exact ini (by omega) (by omega) | (intro hh; simp at hh; exact ini (by omega) (by omega)) | (intro hh; simp at hh ⊢; omega) | (simp at *; omega) | (simp_all; done)) ?_)
        refine sat_fn _ (Raise_ok 32 (unT h 3 v)) rfl ?_
        repeat (first | refine sat_same ?_ | refine sat_impA ?_ | refine sat_need (by first | (decide +kernel) | (have hG : (unG 3).size ≤ 10 := by decide +kernel); (have hG2 : (sgnL.getD (Int.toNat (3 - 1)) ByteArray.empty).size ≤ 10 := by decide +kernel); (simp only [ByteArray.size_append, bsz, List.size_toArray, List.length_cons, List.length_nil]; omega) | first | exact trivial | omega | exact ini (by omega) (by omega) | (intro hh; simp at hh; exact ini (by omega) (by omega)) | (intro hh; simp at hh ⊢; omega) | (simp at *; omega) | (simp_all; done)) ?_)
        refine sat_done (exBl_normal (exS_normal ?_))
        refine ev_R tabT [] 1100 ?_
        refine ev_ret ?_
        have e : unS 3 v = (st0, false) := by unfold unS; rw [if_neg (fun hh => absurd hh.1 (by decide)), if_neg (fun hh => absurd hh.1 (by decide)), if_neg (fun hh => by have := hh.2; simp_all)]
        exact FinV.ret rfl (SubP.of_eq (by rw [unL, e, if_neg (by decide)]; rfl))
theorem unHop {op : Int} (h1 : 1 ≤ op) (h2 : op ≤ 3) : op = 1 ∨ op = 2 ∨ op = 3 := by omega
theorem opUnAll (op : Int) (h : List Ob) (v : Vl) (hop : op = 1 ∨ op = 2 ∨ op = 3) (hh : HpIn h) (g : Uh h) (hi : VlIn v) (hs : hasS h v = true) : Fn Tryz.prog 7 [hpP me md h, .v (.int .i64 op), .agg (vlD v)] (plnD (attS h v (onB ++ unN op) []) (unL h op v)) := by
  rcases hop with rfl | rfl | rfl
  · exact opUn1 h v hh g hi hs
  · exact opUn2 h v hh g hi hs
  · exact opUn3 h v hh g hi hs
theorem rfUnAll (op : Int) (h : List Ob) (v : Vl) (hop : op = 1 ∨ op = 2 ∨ op = 3) (hh : HpIn h) (g : Uh h) (hi : VlIn v) (hs : hasS h v = true) : Fn Tryz.prog 8 [hpD md h, .v (.int .i64 op), .agg (vlD v)] (plnD (attS h v (onB ++ unN op) []) (unL h op v)) := by
  rcases hop with rfl | rfl | rfl
  · exact rfUn1 h v hh g hi hs
  · exact rfUn2 h v hh g hi hs
  · exact rfUn3 h v hh g hi hs
theorem SamePlan_self (l : List St) (s : St) (hl : l.length ≤ 1000) : Fn Tryz.prog 6 [plnD l s, plnD l s] (.v (.bool true)) := by
  refine fn_ev tabT Tryz.func6 rfl rfl rfl rfl rfl rfl ?_
  intro w0 s0 mx
  refine ev_R tabT [] 100 ?_
  refine ev_seq ?_
  refine ev_seq (ev_region tabT [] 200 rfl ?_)
  refine sat_go ?_
  refine sat_fnG _ (fun hg12 => SameStep_ok s s) rfl ?_
  refine sat_go ?_
  refine sat_done (exS_normal ?_)
  refine ev_if (fun c1 => ?_) (fun c1 => ?_)
  ·
    simp [smSt_self] at c1
  ·
    refine ev_skip (exS_normal ?_)
    refine ev_seq ?_
    refine ev_R tabT [] 400 ?_
    refine ev_block ?_
    refine ev_loopK (ι := {k : Nat // k ≤ l.length}) [2, 3, 23] [0, 1] 450 (fun x => [(24, .v (.int .i64 x.1))]) (fun _ => []) (fun x => l.length - x.1) ⟨0, Nat.zero_le _⟩ ?_
    refine ⟨⟨le_t, le_o, rfl, rfl⟩, fun x => ?_⟩
    have hk : x.1 ≤ l.length := x.2
    refine ev_R tabT [] 500 ?_
    refine ev_seq ?_
    refine ev_if (fun c4 => ?_) (fun c4 => ?_)
    ·
      refine ev_skip (exS_normal ?_)
      refine ev_seq ?_
      refine ev_block ?_
      refine ev_R tabT [] 600 ?_
      refine ev_seq (ev_drawn tabT [] [[], [0], [], [0, 1, 2], [0, 1, 2, 3], [], [5], [], [5, 6, 7], [5, 6, 7, 8], [0, 1, 2, 3, 4, 5, 6, 7, 8, 9], [0, 1, 2, 3, 4, 5, 6, 7, 8, 9, 10]] 700 mixT (by kernel_rfl) rfl ?_)
      refine sat_go ?_
      refine sat_fn _ (SameStep_ok _ _) rfl ?_
      refine sat_go ?_
      refine sat_done (exS_normal ?_)
      refine ev_if (fun c6 => ?_) (fun c6 => ?_)
      ·
        simp [smSt_self] at c6
      ·
        refine ev_skip (exBl_normal (exS_normal ?_))
        refine ev_Q tabT [] 900 ?_
        exact exL_normal (⟨x.1 + 1, by omega⟩) ⟨⟨Sub.int (by push_cast; rfl), le_t⟩, le_o, rfl, rfl⟩ (by show l.length - (x.1 + 1) < l.length - x.1; omega)
    ·
      refine ev_exit (exS_exit (exL_exit (exBl_same (exS_normal ?_))))
      refine ev_R tabT [] 1000 ?_
      refine ev_ret ?_
      exact FinV.ret rfl (SubP.refl _)
theorem Law14_ok (h : List Ob) (op : Int) (v : Vl) (hh : HpIn h) (hi : VlIn v) : Fn Tryz.prog 3 [hpD md h, .v (.int .i64 op), .agg (vlD v)] (.v (.bool true)) := by
  have hhl := hh.len
  refine fn_ev tabT Tryz.func3 rfl rfl rfl rfl rfl rfl ?_
  intro w0 s0 mx
  refine ev_R tabT [] 100 ?_
  refine ev_seq ?_
  refine ev_seq (ev_region tabT [] 200 rfl ?_)
  refine sat_go ?_
  refine sat_fn _ ((Usable_ok h [v] hh (fun u hu => by simp only [List.mem_singleton] at hu; rw [hu]; exact hi) (by show 1 ≤ 2000000; omega)).args ⟨SubP.refl _, SubP.slrSl rfl, trivial⟩) rfl ?_
  refine sat_go ?_
  refine sat_done (exS_normal ?_)
  refine ev_cond rfl (fun c1 => ?_) (fun c1 => ?_)
  ·
    refine ev_R tabT [] 300 ?_
    refine ev_ret (exS_ret ?_)
    exact FinV.ret rfl (SubP.refl _)
  · have hq : ((problemS h).1 = 0 ∧ hasS h v = true) ∧ 1 ≤ op ∧ op ≤ 3 := by
      have hu : (usableS h [v] = true ∧ ¬ op < 1) ∧ ¬ 3 < op := by simpa using c1
      refine ⟨?_, by omega⟩
      have hu := hu.1.1
      simp only [usableS, Bool.and_eq_true, decide_eq_true_eq, List.all_cons, List.all_nil, Bool.and_true] at hu
      exact hu
    have g : Uh h := uh_of hq.1.1
    have hs := hq.1.2
    have hop := unHop hq.2.1 hq.2.2
    refine ev_skip (exS_normal ?_)
    refine ev_seq (ev_region tabT [1022] 400 rfl ?_)
    refine sat_go ?_
    refine sat_fnH _ _ (Copy_G h hh) rfl ?_
    refine sat_go ?_
    refine sat_done (exS_normal ?_)
    refine ev_freeze 201 rfl (by repeat (first | exact trivial | exact rfl | refine ⟨?_, ?_⟩)) (by repeat (first | exact trivial | exact (fun _ => rfl) | exact rfl | refine ⟨?_, ?_⟩)) ?_
    refine ev_tell [1, 3, 5, 7] [0, 1] 410 [] [(202, .box 24 [.sl false 10 h obD ob0])] ?_
    refine ⟨⟨le_t, ⟨⟨rfl, Sub.ownSl rfl, rfl, trivial⟩, le_o⟩, rfl, rfl⟩, ?_⟩
    refine ev_seq (ev_drawn tabT [] [[], [], [0, 1], [], [], [], [0, 1, 2, 3, 4, 5], [0, 1, 2, 3, 4, 5, 6], [0, 1, 2, 3, 4, 5, 6, 7], [0, 1, 2, 3, 4, 5, 6, 7, 8], [0, 1, 2, 3, 4, 5, 6, 7, 8], [0, 1, 2, 3, 4, 5, 6, 7, 8, 9, 10], [0, 1, 2, 3, 4, 5, 6, 7, 8, 9, 10, 11], [0, 1, 2, 3, 4, 5, 6, 7, 8, 9, 10, 11, 12]] 500 mixT (by kernel_rfl) rfl ?_)
    refine sat_go ?_
    refine sat_fnL _ (opUnAll op h v hop hh g hi hs) rfl rfl ?_
    refine sat_go ?_
    refine sat_fn _ (rfUnAll op h v hop hh g hi hs) rfl ?_
    refine sat_go ?_
    refine sat_fn _ (SamePlan_self _ _ (Nat.le_trans (att_len h v _ _) (by decide))) rfl ?_
    refine sat_go ?_
    refine sat_fnG _ (fun hg11 => SameHeap_ok h h hhl hhl) rfl ?_
    refine sat_go ?_
    refine sat_done (exS_normal (ev_ret ?_))
    exact FinV.ret rfl (SubP.bool (by simp [shS_self]))
end Go.Proofs.YtcklaaaomjmhgaaGreatDoor
