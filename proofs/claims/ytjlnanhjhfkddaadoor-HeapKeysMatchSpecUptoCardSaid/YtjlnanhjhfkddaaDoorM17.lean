/- Part 17 of the proof. -/
import Derived.Test.YtjlnanhjhfkddaaDoorM16

/- Walks by the evaluator: values; copies of lists. -/
namespace Go.Proofs.YtjlnanhjhfkddaaDoor
open Go.RowKit
variable {md me : Bool}

/-- Its numbers lie in their kinds' ranges. -/
structure VlIn (x : Vl) : Prop where
  k1 : -9223372036854775808 ≤ x.k
  k2 : x.k ≤ 9223372036854775807
  r1 : -9223372036854775808 ≤ x.r
  r2 : x.r ≤ 9223372036854775807
  nl : Lg x.nl
  dl : Lg x.dl
  nn : x.nl.length ≤ 2000000
  dn : x.dl.length ≤ 2000000
  s : x.s.size ≤ 2000000
theorem lenMap {α : Type} {β : Type 1} {l : List α} {f : α → β} (h : l.length ≤ 2000000) : (l.map f).length ≤ 1073741824 := by rw [List.length_map]; omega
/-- All numbers below have p, so far. -/
structure Up (n : Nat) (p : Nat → Bool) where
  k : Nat
  le : k ≤ n
  all : ∀ j, j < k → p j = true
def Up.next {n : Nat} {p : Nat → Bool} (x : Up n p) (h1 : x.k < n) (h2 : p x.k = true) : Up n p := ⟨x.k + 1, by omega, fun j hj => by
  rcases Nat.lt_succ_iff_lt_or_eq.1 hj with h | rfl
  · exact x.all j h
  · exact h2⟩
theorem Up.yes {n : Nat} {p : Nat → Bool} (x : Up n p) (h1 : ¬ x.k < n) : (List.range n).all p = true := by
  rw [List.all_eq_true]
  intro j hj
  exact x.all j (by have := List.mem_range.1 hj; omega)
theorem Up.no {n k : Nat} {p : Nat → Bool} (h1 : k < n) (h2 : p k = false) : (List.range n).all p = false := by
  rw [← Bool.not_eq_true, List.all_eq_true]
  intro h
  rw [h k (List.mem_range.2 h1)] at h2; cases h2
def lttI (b : Int) : Bool := (decide (b = 95) || (decide (97 ≤ b) && decide (b ≤ 122))) || (decide (65 ≤ b) && decide (b ≤ 90))
/-- The byte at i may stand in a name. -/
def nmP (s : ByteArray) (i : Nat) : Bool := !(!lttI (bAt s i) && ((decide ((i : Int) = 0) || decide ((bAt s i : Int) < 48)) || decide (57 < (bAt s i : Int))))
def nameOkS (s : ByteArray) : Bool := !(decide ((s.size : Int) < 1) || decide (24 < (s.size : Int))) && (List.range s.size).all (nmP s)
def dotS (s : ByteArray) : Bool := (splitS s ⟨#[46]⟩).all nameOkS && decide ((s.size : Int) ≤ 60)
theorem intOk_raw (b : Bool) (l : List Nat) : (decide ((l.length : Int) ≤ 128) && ((decide ((l.length : Int) = 0) && !b) || (decide (0 < (l.length : Int)) && !decide (((l.getD ((l.length : Int) - 1).toNat 0 : Nat) : Int) = 0)))) = intOk b l := by
  have e : ((l.length : Int) - 1).toNat = l.length - 1 := by omega
  rw [e, intOk, Bool.eq_iff_iff]
  simp
  omega
def emS (s : ByteArray) : Bool := decide (s = ⟨#[]⟩)
def zI (b : Bool) (l : List Nat) : Bool := smI b l false []
def oneS (l : List Nat) : Bool := decide ((l.length : Int) = 1) && decide (((l.getD 0 0 : Nat) : Int) = 1)
def shr1 (r : Int) : Int := r.fdiv (2 ^ (min (Int.toNat 1) (IntKind.i64).bits))
/-- A value is valid, apart from the object to which it refers. -/
def vokS (v : Vl) : Bool :=
  if v.k = 0 ∨ v.k = 8 then ((zI v.nn v.nl && zI v.dn v.dl) && emS v.s) && decide (v.r = 0)
  else if v.k = 1 then ((zI v.nn v.nl && zI v.dn v.dl) && emS v.s) && decide (shr1 v.r = 0)
  else if v.k = 2 then ((intOk v.nn v.nl && zI v.dn v.dl) && emS v.s) && decide (v.r = 0)
  else if v.k = 3 then ((ratS v.nn v.nl v.dn v.dl && !oneS v.dl) && emS v.s) && decide (v.r = 0)
  else if v.k = 4 then (((zI v.nn v.nl && zI v.dn v.dl) && decide (v.r = 0)) && Lib.validD v.s.data.toList) && decide ((v.s.size : Int) ≤ 4000)
  else if v.k = 5 then ((zI v.nn v.nl && zI v.dn v.dl) && decide (v.r = 0)) && decide ((v.s.size : Int) ≤ 4000)
  else if v.k = 7 then ((zI v.nn v.nl && zI v.dn v.dl) && decide (v.r = 0)) && dotS v.s
  else if v.k = 6 then (zI v.nn v.nl && zI v.dn v.dl) && emS v.s
  else false
def hasS (h : List Ob) (v : Vl) : Bool := vokS v && (!decide (v.k = 6) || isObj h v.r)
def usesB : ByteArray := ⟨#[32, 42, 32, 42, 32, 107, 58, 32, 107, 48, 32, 51, 32, 49, 32, 110, 99, 114, 100, 115, 42, 32, 50, 32, 110, 114, 97, 115, 61, 32, 99, 97, 61, 32, 110, 97, 61, 32, 51, 32, 49, 32, 49, 32, 50, 32, 115, 50, 32, 110, 100, 115, 42, 32, 115, 48, 32, 115, 50, 32, 49]⟩
def usesL : List ByteArray := splitS usesB ⟨#[32]⟩
theorem usesL_len : usesL.length = 21 := by decide +kernel
def usedS (k : Int) : ByteArray := usesL.getD k.toNat ByteArray.empty
theorem used_in {k : Int} (h : 0 ≤ k ∧ k < 21) : 0 ≤ k ∧ k.toNat < usesL.length := by rw [usesL_len]; omega

theorem CloneV_ok (l : List Vl) (hl : l.length ≤ 2000000) : FnO Tryd.prog 14 [vsD l] 29 7 (l.map vlD) := by
  refine fnO_ev Tryd.func14 rfl rfl rfl rfl rfl rfl ?_
  intro w0 s0 mx
  refine ev_seq (ev_region tabT [5] 100 rfl ?_)
  repeat (first | refine sat_same ?_ | refine sat_impA ?_ | refine sat_need (by exact lenMap hl) ?_)
  refine sat_done ?_
  refine exS_normal ?_
  refine ev_seq ?_
  refine ev_seq ?_
  refine ev_nilRegion Tryd.underlying31 rfl rfl rfl fun c hc => ?_
  refine exS_normal ?_
  refine ev_cond rfl (fun c1 => ?_) (fun c1 => ?_)
  · 
    refine ev_seq (ev_region tabT [5] 300 rfl ?_)
    repeat (first | refine sat_same ?_ | refine sat_impA ?_ | refine sat_need (by exact lenMap hl) ?_)
    refine sat_done ?_
    refine exS_normal ?_
    refine ev_ret ?_
    refine exS_ret ?_
    exact FinO.nil rfl (by rw [hc c1]; rfl)
  · 
    refine ev_skip ?_
    refine exS_normal ?_
    refine ev_seq (ev_region tabT [5] 400 rfl ?_)
    repeat (first | refine sat_same ?_ | refine sat_impA ?_ | refine sat_need (by first | rfl | exact lenMap hl | (rw [List.length_nil]; have := lenMap (f := vlD) hl; omega) | (have := lenMap (f := vlD) hl; simp at this ⊢; omega)) ?_)
    refine sat_done ?_
    refine exS_normal ?_
    refine ev_ret ?_
    exact FinO.ret rfl rfl rfl rfl

theorem NameOk_ok (s : ByteArray) : Fn Tryd.prog 44 [.v (.string s)] (.v (.bool (nameOkS s))) := by
  refine fn_ev tabT Tryd.func44 rfl rfl rfl rfl rfl rfl ?_
  intro w0 s0 mx
  refine ev_seq (ev_region tabT [] 100 rfl ?_)
  repeat (first | refine sat_same ?_ | refine sat_impA ?_ | refine sat_needA ?_)
  refine sat_done ?_
  refine exS_normal ?_
  refine ev_seq ?_
  refine ev_seq (ev_region tabT [] 200 rfl ?_)
  repeat (first | refine sat_same ?_ | refine sat_impA ?_ | refine sat_needA ?_)
  refine sat_done ?_
  refine exS_normal ?_
  refine ev_cond rfl (fun c1 => ?_) (fun c1 => ?_)
  · 
    refine ev_seq (ev_region tabT [] 300 rfl ?_)
    repeat (first | refine sat_same ?_ | refine sat_impA ?_ | refine sat_needA ?_)
    refine sat_done ?_
    refine exS_normal ?_
    refine ev_ret ?_
    refine exS_ret ?_
    exact FinV.ret rfl (SubP.bool (by rw [nameOkS, c1]; rfl))
  · simp only [Bool.or_eq_false_iff, decide_eq_false_iff_not] at c1
    refine ev_skip ?_
    refine exS_normal ?_
    refine ev_seq ?_
    refine ev_seq (ev_region tabT [] 400 rfl ?_)
    repeat (first | refine sat_same ?_ | refine sat_impA ?_ | refine sat_needA ?_)
    refine sat_done ?_
    refine exS_normal ?_
    refine ev_block ?_
    refine ev_loopK (ι := Up s.size (nmP s)) [0] [] 450 (fun x => [(3, .v (.int .i64 x.k))]) (fun _ => []) (fun x => s.size - x.k) ⟨0, Nat.zero_le _, fun j hj => by omega⟩ ?_
    refine ⟨⟨(by first | exact trivial | (repeat (first | exact trivial | exact Sub.refl _ | refine ⟨?_, ?_⟩ | exact Sub.int (by first | rfl | omega | (push_cast; omega)) | exact Sub.nilSl | exact Sub.own rfl | exact Sub.slrSl rfl | exact Sub.ownSl (List.map_append).symm | exact Sub.ownSl rfl))), (by repeat (first | exact trivial | exact SubO.same rfl | refine ⟨?_, ?_⟩)), rfl, rfl⟩, fun x => ?_⟩
    have hk := x.le
    refine ev_seq ?_
    refine ev_seq (ev_region tabT [] 500 rfl ?_)
    repeat (first | refine sat_same ?_ | refine sat_impA ?_ | refine sat_needA ?_)
    refine sat_done ?_
    refine exS_normal ?_
    refine ev_cond rfl (fun c4 => ?_) (fun c4 => ?_)
    · try simp only [decide_eq_true_eq, decide_eq_false_iff_not, Bool.not_eq_true', Bool.not_eq_false', Bool.and_eq_true, Bool.or_eq_true, Bool.or_eq_false_iff, gt_iff_lt, Int.not_lt, Bool.not_true, Bool.not_false, Int.ofNat_lt, Int.ofNat_le] at c4
      refine ev_skip ?_
      refine exS_normal ?_
      refine ev_seq ?_
      refine ev_block ?_
      refine ev_seq (ev_region tabT [] 700 rfl ?_)
      repeat (first | refine sat_same ?_ | refine sat_impA ?_ | refine sat_needA ?_)
      refine sat_done ?_
      refine exS_normal ?_
      refine ev_seq (ev_region tabT [] 800 rfl ?_)
      repeat (first | refine sat_same ?_ | refine sat_impA ?_ | refine sat_needA ?_)
      refine sat_done ?_
      refine exS_normal ?_
      refine ev_seq (ev_region tabT [] 900 rfl ?_)
      repeat (first | refine sat_same ?_ | refine sat_impA ?_ | refine sat_needA ?_)
      refine sat_done ?_
      refine exS_normal ?_
      refine ev_cond rfl (fun c8 => ?_) (fun c8 => ?_)
      · 
        refine ev_seq (ev_region tabT [] 1000 rfl ?_)
        repeat (first | refine sat_same ?_ | refine sat_impA ?_ | refine sat_needA ?_)
        refine sat_done ?_
        refine exS_normal ?_
        refine ev_ret ?_
        refine exBl_ret ?_
        refine exS_ret ?_
        refine exL_ret ?_
        refine exBl_ret ?_
        refine exS_ret ?_
        exact FinV.ret rfl (SubP.bool (by rw [nameOkS, Up.no (p := nmP s) c4 (congrArg Bool.not c8), Bool.and_false]))
      · 
        refine ev_skip ?_
        refine exBl_normal ?_
        refine exS_normal ?_
        refine ev_region tabT [] 1000 rfl ?_
        repeat (first | refine sat_same ?_ | refine sat_impA ?_ | refine sat_needA ?_)
        refine sat_done ?_
        exact exL_normal (x.next c4 (by show (!(_)) = true; exact congrArg Bool.not c8)) ⟨(by first | exact trivial | (repeat (first | exact trivial | exact Sub.refl _ | refine ⟨?_, ?_⟩ | exact Sub.int (by first | rfl | omega | (push_cast; omega)) | exact Sub.nilSl | exact Sub.own rfl | exact Sub.slrSl rfl | exact Sub.ownSl (List.map_append).symm | exact Sub.ownSl rfl))), (by repeat (first | exact trivial | exact SubO.same rfl | refine ⟨?_, ?_⟩)), rfl, rfl⟩ (by show s.size - (x.k + 1) < s.size - x.k; omega)
    · try simp only [decide_eq_true_eq, decide_eq_false_iff_not, Bool.not_eq_true', Bool.not_eq_false', Bool.and_eq_true, Bool.or_eq_true, Bool.or_eq_false_iff, gt_iff_lt, Int.not_lt, Bool.not_true, Bool.not_false, Int.ofNat_lt, Int.ofNat_le] at c4
      refine ev_exit ?_
      refine exS_exit ?_
      refine exL_exit ?_
      refine exBl_same ?_
      refine exS_normal ?_
      refine ev_seq (ev_region tabT [] 1100 rfl ?_)
      repeat (first | refine sat_same ?_ | refine sat_impA ?_ | refine sat_needA ?_)
      refine sat_done ?_
      refine exS_normal ?_
      refine ev_ret ?_
      exact FinV.ret rfl (SubP.bool (by rw [nameOkS, x.yes c4, decide_eq_false c1.1, decide_eq_false c1.2]; rfl))

theorem DottedOk_ok (s : ByteArray) (hs : s.size ≤ 2000000) : Fn Tryd.prog 45 [.v (.string s)] (.v (.bool (dotS s))) := by
  refine fn_ev tabT Tryd.func45 rfl rfl rfl rfl rfl rfl ?_
  intro w0 s0 mx
  refine ev_seq (ev_region tabT [] 100 rfl ?_)
  repeat (first | refine sat_same ?_ | refine sat_impA ?_ | refine sat_needA ?_)
  refine sat_done ?_
  refine exS_normal ?_
  refine ev_seq ?_
  refine ev_seq (ev_region tabT [] 200 rfl ?_)
  repeat (first | refine sat_same ?_ | refine sat_impA ?_ | refine sat_needA ?_)
  refine sat_fn _ (Split_ok _ _ (by omega) (by decide)) rfl ?_
  repeat (first | refine sat_same ?_ | refine sat_impA ?_ | refine sat_needA ?_)
  refine sat_done ?_
  
  refine exS_normal ?_
  refine ev_block ?_
  refine ev_loopK (ι := Al (splitS s ⟨#[46]⟩) nameOkS) [0, 6, 7] [] 250 (fun x => [(8, .v (.int .i64 x.k))]) (fun _ => []) (fun x => (splitS s ⟨#[46]⟩).length - x.k) ⟨0, Nat.zero_le _, fun j x hj => by omega⟩ ?_
  refine ⟨⟨(by first | exact trivial | (repeat (first | exact trivial | exact Sub.refl _ | refine ⟨?_, ?_⟩ | exact Sub.int (by first | rfl | omega | (push_cast; omega)) | exact Sub.nilSl | exact Sub.own rfl | exact Sub.slrSl rfl | exact Sub.ownSl (List.map_append).symm | exact Sub.ownSl rfl))), (by repeat (first | exact trivial | exact SubO.same rfl | refine ⟨?_, ?_⟩)), rfl, rfl⟩, fun x => ?_⟩
  have hk := x.le
  have hl : (splitS s ⟨#[46]⟩).length ≤ 2000001 := by rw [splitS_len (by decide)]; have := Lib.countB_le ⟨#[46]⟩ (by decide) s.size s (Nat.le_refl _); omega
  refine ev_seq (ev_region tabT [] 300 rfl ?_)
  repeat (first | refine sat_same ?_ | refine sat_impA ?_ | refine sat_needA ?_)
  refine sat_done ?_
  refine exS_normal ?_
  refine ev_seq ?_
  refine ev_cond rfl (fun c2 => ?_) (fun c2 => ?_)
  · try simp only [decide_eq_true_eq, decide_eq_false_iff_not, Bool.not_eq_true', Bool.not_eq_false', Bool.and_eq_true, Bool.or_eq_true, Bool.or_eq_false_iff, gt_iff_lt, Int.not_lt, Bool.not_true, Bool.not_false, Int.ofNat_lt, Int.ofNat_le] at c2
    refine ev_skip ?_
    refine exS_normal ?_
    refine ev_seq ?_
    refine ev_block ?_
    refine ev_seq (ev_region tabT [] 400 rfl ?_)
    repeat (first | refine sat_same ?_ | refine sat_impA ?_ | refine sat_needA ?_)
    refine sat_done ?_
    refine exS_normal ?_
    refine ev_seq (ev_region tabT [] 500 rfl ?_)
    repeat (first | refine sat_same ?_ | refine sat_impA ?_ | refine sat_needA ?_)
    refine sat_fn _ (NameOk_ok _) rfl ?_
    repeat (first | refine sat_same ?_ | refine sat_impA ?_ | refine sat_needA ?_)
    refine sat_done ?_
    refine exS_normal ?_
    refine ev_cond rfl (fun c4 => ?_) (fun c4 => ?_)
    · try simp only [decide_eq_true_eq, decide_eq_false_iff_not, Bool.not_eq_true', Bool.not_eq_false', Bool.and_eq_true, Bool.or_eq_true, Bool.or_eq_false_iff, gt_iff_lt, Int.not_lt, Bool.not_true, Bool.not_false, Int.ofNat_lt, Int.ofNat_le] at c4
      refine ev_seq (ev_region tabT [] 600 rfl ?_)
      repeat (first | refine sat_same ?_ | refine sat_impA ?_ | refine sat_needA ?_)
      refine sat_done ?_
      refine exS_normal ?_
      refine ev_ret ?_
      refine exBl_ret ?_
      refine exS_ret ?_
      refine exL_ret ?_
      refine exBl_ret ?_
      refine exS_ret ?_
      exact FinV.ret rfl (SubP.bool (by rw [dotS, Al.no (e := ByteArray.empty) c2 c4]; rfl))
    · try simp only [decide_eq_true_eq, decide_eq_false_iff_not, Bool.not_eq_true', Bool.not_eq_false', Bool.and_eq_true, Bool.or_eq_true, Bool.or_eq_false_iff, gt_iff_lt, Int.not_lt, Bool.not_true, Bool.not_false, Int.ofNat_lt, Int.ofNat_le] at c4
      refine ev_skip ?_
      refine exBl_normal ?_
      refine exS_normal ?_
      refine ev_region tabT [] 700 rfl ?_
      repeat (first | refine sat_same ?_ | refine sat_impA ?_ | refine sat_needA ?_)
      refine sat_done ?_
      exact exL_normal (x.next (e := ByteArray.empty) c2 c4) ⟨(by first | exact trivial | (repeat (first | exact trivial | exact Sub.refl _ | refine ⟨?_, ?_⟩ | exact Sub.int (by first | rfl | omega | (push_cast; omega)) | exact Sub.nilSl | exact Sub.own rfl | exact Sub.slrSl rfl | exact Sub.ownSl (List.map_append).symm | exact Sub.ownSl rfl))), (by repeat (first | exact trivial | exact SubO.same rfl | refine ⟨?_, ?_⟩)), rfl, rfl⟩ (by show (splitS s ⟨#[46]⟩).length - (x.k + 1) < (splitS s ⟨#[46]⟩).length - x.k; omega)
  · try simp only [decide_eq_true_eq, decide_eq_false_iff_not, Bool.not_eq_true', Bool.not_eq_false', Bool.and_eq_true, Bool.or_eq_true, Bool.or_eq_false_iff, gt_iff_lt, Int.not_lt, Bool.not_true, Bool.not_false, Int.ofNat_lt, Int.ofNat_le] at c2
    refine ev_exit ?_
    refine exS_exit ?_
    refine exL_exit ?_
    refine exBl_same ?_
    refine exS_normal ?_
    refine ev_seq (ev_region tabT [] 800 rfl ?_)
    repeat (first | refine sat_same ?_ | refine sat_impA ?_ | refine sat_needA ?_)
    refine sat_done ?_
    refine exS_normal ?_
    refine ev_ret ?_
    exact FinV.ret rfl (SubP.bool (by rw [dotS, x.yes c2]; rfl))

theorem IntOk_ok (b : Bool) (l : List Nat) (hl : l.length ≤ 2000000) : Fn Tryd.prog 55 [.agg [.v (.bool b), usD l]] (.v (.bool (intOk b l))) := by
  refine fn_ev tabT Tryd.func55 rfl rfl rfl rfl rfl rfl ?_
  intro w0 s0 mx
  refine ev_seq (ev_region tabT [] 100 rfl ?_)
  repeat (first | refine sat_same ?_ | refine sat_impA ?_ | refine sat_needA ?_)
  refine sat_done ?_
  refine exS_normal ?_
  refine ev_seq (ev_region tabT [] 200 rfl ?_)
  repeat (first | refine sat_same ?_ | refine sat_impA ?_ | refine sat_needA ?_)
  refine sat_done ?_
  refine exS_normal ?_
  refine ev_seq (ev_region tabT [] 300 rfl ?_)
  repeat (first | refine sat_same ?_ | refine sat_impA ?_ | refine sat_needA ?_)
  refine sat_done ?_
  refine exS_normal ?_
  refine ev_ret ?_
  exact FinV.ret rfl (SubP.bool (intOk_raw b l))

theorem ValueOk_ok (v : Vl) (hin : VlIn v) : Fn Tryd.prog 30 [.agg (vlD v)] (.v (.bool (vokS v))) := by
  have hsz := hin.s
  refine fn_ev tabT Tryd.func30 rfl rfl rfl rfl rfl rfl ?_
  intro w0 s0 mx
  refine ev_seq (ev_region tabT [] 100 rfl ?_)
  repeat (first | refine sat_same ?_ | refine sat_impA ?_ | refine sat_needA ?_)
  refine sat_done ?_
  refine exS_normal ?_
  refine ev_seq (ev_drawn tabT [] [[], [0], [], [0, 1, 2], [], [4], [], [0, 1, 2, 3, 4, 5, 6], [0, 1, 2, 3, 4, 5, 6, 7], [0, 1, 2, 3, 4, 5, 6, 7, 8]] 200 mixT (by kernel_rfl) rfl ?_)
  repeat (first | refine sat_same ?_ | refine sat_impA ?_ | refine sat_needA ?_)
  refine sat_fn _ ((SameInt_ok v.nn false v.nl []).args ⟨SubP.refl _, SubP.agg ⟨SubP.refl _, SubP.nilSl rfl, trivial⟩, trivial⟩) rfl ?_
  repeat (first | refine sat_same ?_ | refine sat_impA ?_ | refine sat_needA ?_)
  refine sat_fn _ ((SameInt_ok v.dn false v.dl []).args ⟨SubP.refl _, SubP.agg ⟨SubP.refl _, SubP.nilSl rfl, trivial⟩, trivial⟩) rfl ?_
  repeat (first | refine sat_same ?_ | refine sat_impA ?_ | refine sat_needA ?_)
  refine sat_done ?_
  refine exS_normal ?_
  refine ev_seq ?_
  refine ev_seq (ev_region tabT [] 300 rfl ?_)
  repeat (first | refine sat_same ?_ | refine sat_impA ?_ | refine sat_needA ?_)
  refine sat_done ?_
  refine exS_normal ?_
  refine ev_block ?_
  refine ev_seq ?_
  refine ev_seq (ev_region tabT [] 400 rfl ?_)
  repeat (first | refine sat_same ?_ | refine sat_impA ?_ | refine sat_needA ?_)
  refine sat_done ?_
  refine exS_normal ?_
  refine ev_cond rfl (fun c3 => ?_) (fun c3 => ?_)
  · try simp only [decide_eq_true_eq, decide_eq_false_iff_not, Bool.not_eq_true', Bool.not_eq_false', Bool.and_eq_true, Bool.or_eq_true, Bool.or_eq_false_iff, gt_iff_lt, Int.not_lt, Bool.not_true, Bool.not_false, Int.ofNat_lt, Int.ofNat_le] at c3
    refine ev_skip ?_
    refine exS_normal ?_
    refine ev_cond rfl (fun c3x => ?_) (fun c3x => ?_)
    · try simp only [decide_eq_true_eq, decide_eq_false_iff_not, Bool.not_eq_true', Bool.not_eq_false', Bool.and_eq_true, Bool.or_eq_true, Bool.or_eq_false_iff, gt_iff_lt, Int.not_lt, Bool.not_true, Bool.not_false, Int.ofNat_lt, Int.ofNat_le] at c3x
      refine ev_seq (ev_region tabT [] 600 rfl ?_)
      repeat (first | refine sat_same ?_ | refine sat_impA ?_ | refine sat_needA ?_)
      refine sat_done ?_
      refine exS_normal ?_
      refine ev_ret ?_
      refine exBl_ret ?_
      refine exS_ret ?_
      exact FinV.ret rfl (SubP.bool (by first | (simp only [vokS]; simp_all; done) | (simp [vokS, oneS, emS, zI, shr1, *]; done) | (simp [vokS, oneS, emS, zI, shr1, *]; rfl)))
    · try simp only [decide_eq_true_eq, decide_eq_false_iff_not, Bool.not_eq_true', Bool.not_eq_false', Bool.and_eq_true, Bool.or_eq_true, Bool.or_eq_false_iff, gt_iff_lt, Int.not_lt, Bool.not_true, Bool.not_false, Int.ofNat_lt, Int.ofNat_le] at c3x
      simp_all
  · try simp only [decide_eq_true_eq, decide_eq_false_iff_not, Bool.not_eq_true', Bool.not_eq_false', Bool.and_eq_true, Bool.or_eq_true, Bool.or_eq_false_iff, gt_iff_lt, Int.not_lt, Bool.not_true, Bool.not_false, Int.ofNat_lt, Int.ofNat_le] at c3
    refine ev_region tabT [] 500 rfl ?_
    repeat (first | refine sat_same ?_ | refine sat_impA ?_ | refine sat_needA ?_)
    refine sat_done ?_
    refine exS_normal ?_
    refine ev_cond rfl (fun c4 => ?_) (fun c4 => ?_)
    · try simp only [decide_eq_true_eq, decide_eq_false_iff_not, Bool.not_eq_true', Bool.not_eq_false', Bool.and_eq_true, Bool.or_eq_true, Bool.or_eq_false_iff, gt_iff_lt, Int.not_lt, Bool.not_true, Bool.not_false, Int.ofNat_lt, Int.ofNat_le] at c4
      refine ev_seq (ev_region tabT [] 600 rfl ?_)
      repeat (first | refine sat_same ?_ | refine sat_impA ?_ | refine sat_needA ?_)
      refine sat_done ?_
      refine exS_normal ?_
      refine ev_ret ?_
      refine exBl_ret ?_
      refine exS_ret ?_
      exact FinV.ret rfl (SubP.bool (by first | (simp only [vokS]; simp_all; done) | (simp [vokS, oneS, emS, zI, shr1, *]; done) | (simp [vokS, oneS, emS, zI, shr1, *]; rfl)))
    · try simp only [decide_eq_true_eq, decide_eq_false_iff_not, Bool.not_eq_true', Bool.not_eq_false', Bool.and_eq_true, Bool.or_eq_true, Bool.or_eq_false_iff, gt_iff_lt, Int.not_lt, Bool.not_true, Bool.not_false, Int.ofNat_lt, Int.ofNat_le] at c4
      refine ev_seq (ev_region tabT [] 700 rfl ?_)
      repeat (first | refine sat_same ?_ | refine sat_impA ?_ | refine sat_needA ?_)
      refine sat_done ?_
      refine exS_normal ?_
      refine ev_cond rfl (fun c6 => ?_) (fun c6 => ?_)
      · try simp only [decide_eq_true_eq, decide_eq_false_iff_not, Bool.not_eq_true', Bool.not_eq_false', Bool.and_eq_true, Bool.or_eq_true, Bool.or_eq_false_iff, gt_iff_lt, Int.not_lt, Bool.not_true, Bool.not_false, Int.ofNat_lt, Int.ofNat_le] at c6
        refine ev_seq (ev_region tabT [] 800 rfl ?_)
        repeat (first | refine sat_same ?_ | refine sat_impA ?_ | refine sat_needA ?_)
        refine sat_done ?_
        refine exS_normal ?_
        refine ev_ret ?_
        refine exBl_ret ?_
        refine exS_ret ?_
        exact FinV.ret rfl (SubP.bool (by first | (simp only [vokS]; simp_all; done) | (simp [vokS, oneS, emS, zI, shr1, *]; done) | (simp [vokS, oneS, emS, zI, shr1, *]; rfl)))
      · try simp only [decide_eq_true_eq, decide_eq_false_iff_not, Bool.not_eq_true', Bool.not_eq_false', Bool.and_eq_true, Bool.or_eq_true, Bool.or_eq_false_iff, gt_iff_lt, Int.not_lt, Bool.not_true, Bool.not_false, Int.ofNat_lt, Int.ofNat_le] at c6
        refine ev_seq (ev_region tabT [] 900 rfl ?_)
        repeat (first | refine sat_same ?_ | refine sat_impA ?_ | refine sat_needA ?_)
        refine sat_done ?_
        refine exS_normal ?_
        refine ev_cond rfl (fun c8 => ?_) (fun c8 => ?_)
        · try simp only [decide_eq_true_eq, decide_eq_false_iff_not, Bool.not_eq_true', Bool.not_eq_false', Bool.and_eq_true, Bool.or_eq_true, Bool.or_eq_false_iff, gt_iff_lt, Int.not_lt, Bool.not_true, Bool.not_false, Int.ofNat_lt, Int.ofNat_le] at c8
          refine ev_seq (ev_region tabT [] 1000 rfl ?_)
          repeat (first | refine sat_same ?_ | refine sat_impA ?_ | refine sat_needA ?_)
          refine sat_fn _ (IntOk_ok _ _ (by first | exact hin.nn | assumption)) rfl ?_
          repeat (first | refine sat_same ?_ | refine sat_impA ?_ | refine sat_needA ?_)
          refine sat_done ?_
          refine exS_normal ?_
          refine ev_ret ?_
          refine exBl_ret ?_
          refine exS_ret ?_
          exact FinV.ret rfl (SubP.bool (by first | (simp only [vokS]; simp_all; done) | (simp [vokS, oneS, emS, zI, shr1, *]; done) | (simp [vokS, oneS, emS, zI, shr1, *]; rfl)))
        · try simp only [decide_eq_true_eq, decide_eq_false_iff_not, Bool.not_eq_true', Bool.not_eq_false', Bool.and_eq_true, Bool.or_eq_true, Bool.or_eq_false_iff, gt_iff_lt, Int.not_lt, Bool.not_true, Bool.not_false, Int.ofNat_lt, Int.ofNat_le] at c8
          refine ev_seq (ev_region tabT [] 1100 rfl ?_)
          repeat (first | refine sat_same ?_ | refine sat_impA ?_ | refine sat_needA ?_)
          refine sat_done ?_
          refine exS_normal ?_
          refine ev_cond rfl (fun c10 => ?_) (fun c10 => ?_)
          · try simp only [decide_eq_true_eq, decide_eq_false_iff_not, Bool.not_eq_true', Bool.not_eq_false', Bool.and_eq_true, Bool.or_eq_true, Bool.or_eq_false_iff, gt_iff_lt, Int.not_lt, Bool.not_true, Bool.not_false, Int.ofNat_lt, Int.ofNat_le] at c10
            refine ev_seq (ev_region tabT [] 1200 rfl ?_)
            repeat (first | refine sat_same ?_ | refine sat_impA ?_ | refine sat_needA ?_)
            refine sat_done ?_
            refine exS_normal ?_
            refine ev_seq (ev_region tabT [] 1300 rfl ?_)
            repeat (first | refine sat_same ?_ | refine sat_impA ?_ | refine sat_needA ?_)
            refine sat_fn _ (RatioOk_ok _ _ _ _ hin.nl hin.dl hin.nn hin.dn) rfl ?_
            repeat (first | refine sat_same ?_ | refine sat_impA ?_ | refine sat_needA ?_)
            refine sat_done ?_
            refine exS_normal ?_
            refine ev_ret ?_
            refine exBl_ret ?_
            refine exS_ret ?_
            exact FinV.ret rfl (SubP.bool (by first | (simp only [vokS]; simp_all; done) | (simp [vokS, oneS, emS, zI, shr1, *]; done) | (simp [vokS, oneS, emS, zI, shr1, *]; rfl)))
          · try simp only [decide_eq_true_eq, decide_eq_false_iff_not, Bool.not_eq_true', Bool.not_eq_false', Bool.and_eq_true, Bool.or_eq_true, Bool.or_eq_false_iff, gt_iff_lt, Int.not_lt, Bool.not_true, Bool.not_false, Int.ofNat_lt, Int.ofNat_le] at c10
            refine ev_seq (ev_region tabT [] 1400 rfl ?_)
            repeat (first | refine sat_same ?_ | refine sat_impA ?_ | refine sat_needA ?_)
            refine sat_done ?_
            refine exS_normal ?_
            refine ev_cond rfl (fun c13 => ?_) (fun c13 => ?_)
            · try simp only [decide_eq_true_eq, decide_eq_false_iff_not, Bool.not_eq_true', Bool.not_eq_false', Bool.and_eq_true, Bool.or_eq_true, Bool.or_eq_false_iff, gt_iff_lt, Int.not_lt, Bool.not_true, Bool.not_false, Int.ofNat_lt, Int.ofNat_le] at c13
              refine ev_seq (ev_region tabT [] 1500 rfl ?_)
              repeat (first | refine sat_same ?_ | refine sat_impA ?_ | refine sat_needA ?_)
              refine sat_fnG _ (fun hg12 => ValidString_ok _ (by omega)) rfl ?_
              repeat (first | refine sat_same ?_ | refine sat_impA ?_ | refine sat_needA ?_)
              refine sat_done ?_
              refine exS_normal ?_
              refine ev_ret ?_
              refine exBl_ret ?_
              refine exS_ret ?_
              exact FinV.ret rfl (SubP.bool (by first | (simp only [vokS]; simp_all; done) | (simp [vokS, oneS, emS, zI, shr1, *]; done) | (simp [vokS, oneS, emS, zI, shr1, *]; rfl)))
            · try simp only [decide_eq_true_eq, decide_eq_false_iff_not, Bool.not_eq_true', Bool.not_eq_false', Bool.and_eq_true, Bool.or_eq_true, Bool.or_eq_false_iff, gt_iff_lt, Int.not_lt, Bool.not_true, Bool.not_false, Int.ofNat_lt, Int.ofNat_le] at c13
              refine ev_seq (ev_region tabT [] 1600 rfl ?_)
              repeat (first | refine sat_same ?_ | refine sat_impA ?_ | refine sat_needA ?_)
              refine sat_done ?_
              refine exS_normal ?_
              refine ev_cond rfl (fun c15 => ?_) (fun c15 => ?_)
              · try simp only [decide_eq_true_eq, decide_eq_false_iff_not, Bool.not_eq_true', Bool.not_eq_false', Bool.and_eq_true, Bool.or_eq_true, Bool.or_eq_false_iff, gt_iff_lt, Int.not_lt, Bool.not_true, Bool.not_false, Int.ofNat_lt, Int.ofNat_le] at c15
                refine ev_seq (ev_region tabT [] 1700 rfl ?_)
                repeat (first | refine sat_same ?_ | refine sat_impA ?_ | refine sat_needA ?_)
                refine sat_done ?_
                refine exS_normal ?_
                refine ev_ret ?_
                refine exBl_ret ?_
                refine exS_ret ?_
                exact FinV.ret rfl (SubP.bool (by first | (simp only [vokS]; simp_all; done) | (simp [vokS, oneS, emS, zI, shr1, *]; done) | (simp [vokS, oneS, emS, zI, shr1, *]; rfl)))
              · try simp only [decide_eq_true_eq, decide_eq_false_iff_not, Bool.not_eq_true', Bool.not_eq_false', Bool.and_eq_true, Bool.or_eq_true, Bool.or_eq_false_iff, gt_iff_lt, Int.not_lt, Bool.not_true, Bool.not_false, Int.ofNat_lt, Int.ofNat_le] at c15
                refine ev_seq (ev_region tabT [] 1800 rfl ?_)
                repeat (first | refine sat_same ?_ | refine sat_impA ?_ | refine sat_needA ?_)
                refine sat_done ?_
                refine exS_normal ?_
                refine ev_cond rfl (fun c17 => ?_) (fun c17 => ?_)
                · try simp only [decide_eq_true_eq, decide_eq_false_iff_not, Bool.not_eq_true', Bool.not_eq_false', Bool.and_eq_true, Bool.or_eq_true, Bool.or_eq_false_iff, gt_iff_lt, Int.not_lt, Bool.not_true, Bool.not_false, Int.ofNat_lt, Int.ofNat_le] at c17
                  refine ev_seq (ev_region tabT [] 1900 rfl ?_)
                  repeat (first | refine sat_same ?_ | refine sat_impA ?_ | refine sat_needA ?_)
                  refine sat_fnG _ (fun hg12 => DottedOk_ok _ (by first | assumption | omega | (simp_all; done))) rfl ?_
                  repeat (first | refine sat_same ?_ | refine sat_impA ?_ | refine sat_needA ?_)
                  refine sat_done ?_
                  refine exS_normal ?_
                  refine ev_ret ?_
                  refine exBl_ret ?_
                  refine exS_ret ?_
                  exact FinV.ret rfl (SubP.bool (by first | (simp only [vokS]; simp_all; done) | (simp [vokS, oneS, emS, zI, shr1, *]; done) | (simp [vokS, oneS, emS, zI, shr1, *]; rfl)))
                · try simp only [decide_eq_true_eq, decide_eq_false_iff_not, Bool.not_eq_true', Bool.not_eq_false', Bool.and_eq_true, Bool.or_eq_true, Bool.or_eq_false_iff, gt_iff_lt, Int.not_lt, Bool.not_true, Bool.not_false, Int.ofNat_lt, Int.ofNat_le] at c17
                  refine ev_seq (ev_region tabT [] 2000 rfl ?_)
                  repeat (first | refine sat_same ?_ | refine sat_impA ?_ | refine sat_needA ?_)
                  refine sat_done ?_
                  refine exS_normal ?_
                  refine ev_cond rfl (fun c19 => ?_) (fun c19 => ?_)
                  · try simp only [decide_eq_true_eq, decide_eq_false_iff_not, Bool.not_eq_true', Bool.not_eq_false', Bool.and_eq_true, Bool.or_eq_true, Bool.or_eq_false_iff, gt_iff_lt, Int.not_lt, Bool.not_true, Bool.not_false, Int.ofNat_lt, Int.ofNat_le] at c19
                    refine ev_seq (ev_region tabT [] 2100 rfl ?_)
                    repeat (first | refine sat_same ?_ | refine sat_impA ?_ | refine sat_needA ?_)
                    refine sat_done ?_
                    refine exS_normal ?_
                    refine ev_ret ?_
                    refine exBl_ret ?_
                    refine exS_ret ?_
                    exact FinV.ret rfl (SubP.bool (by first | (simp only [vokS]; simp_all; done) | (simp [vokS, oneS, emS, zI, shr1, *]; done) | (simp [vokS, oneS, emS, zI, shr1, *]; rfl)))
                  · try simp only [decide_eq_true_eq, decide_eq_false_iff_not, Bool.not_eq_true', Bool.not_eq_false', Bool.and_eq_true, Bool.or_eq_true, Bool.or_eq_false_iff, gt_iff_lt, Int.not_lt, Bool.not_true, Bool.not_false, Int.ofNat_lt, Int.ofNat_le] at c19
                    refine ev_skip ?_
                    refine exBl_normal ?_
                    refine exS_normal ?_
                    refine ev_seq (ev_region tabT [] 2200 rfl ?_)
                    repeat (first | refine sat_same ?_ | refine sat_impA ?_ | refine sat_needA ?_)
                    refine sat_done ?_
                    refine exS_normal ?_
                    refine ev_ret ?_
                    exact FinV.ret rfl (SubP.bool (by first | (simp only [vokS]; simp_all; done) | (simp [vokS, oneS, emS, zI, shr1, *]; done) | (simp [vokS, oneS, emS, zI, shr1, *]; rfl)))

theorem Has_ok (h : List Ob) (v : Vl) (hin : VlIn v) : Fn Tryd.prog 12 [hpD md h, .agg (vlD v)] (.v (.bool (hasS h v))) := by
  refine fn_ev tabT Tryd.func12 rfl rfl rfl rfl rfl rfl ?_
  intro w0 s0 mx
  refine ev_seq (ev_region tabT [] 100 rfl ?_)
  repeat (first | refine sat_same ?_ | refine sat_impA ?_ | refine sat_needA ?_)
  refine sat_done ?_
  refine exS_normal ?_
  refine ev_seq (ev_region tabT [] 200 rfl ?_)
  repeat (first | refine sat_same ?_ | refine sat_impA ?_ | refine sat_needA ?_)
  refine sat_fn _ (ValueOk_ok _ (by first | assumption | exact hin)) rfl ?_
  repeat (first | refine sat_same ?_ | refine sat_impA ?_ | refine sat_needA ?_)
  refine sat_fnG _ (fun hg10 => IsObject_ok _ _) rfl ?_
  repeat (first | refine sat_same ?_ | refine sat_impA ?_ | refine sat_needA ?_)
  refine sat_done ?_
  refine exS_normal ?_
  refine ev_ret ?_
  exact FinV.ret rfl (SubP.refl _)

theorem used_ok (k : Int) (hk : 0 ≤ k ∧ k < 21) : Fn Tryd.prog 41 [.v (.int .i64 k)] (.v (.string (usedS k))) := by
  refine fn_ev tabT Tryd.func41 rfl rfl rfl rfl rfl rfl ?_
  intro w0 s0 mx
  refine ev_seq (ev_region tabT [] 100 rfl ?_)
  repeat (first | refine sat_same ?_ | refine sat_impA ?_ | refine sat_needA ?_)
  refine sat_done ?_
  refine exS_normal ?_
  refine ev_seq (ev_region tabT [] 200 rfl ?_)
  repeat (first | refine sat_same ?_ | refine sat_impA ?_ | refine sat_need (by exact used_in hk) ?_)
  refine sat_fn _ (Split_ok _ _ (by decide) (by decide)) rfl ?_
  repeat (first | refine sat_same ?_ | refine sat_impA ?_ | refine sat_need (by exact used_in hk) ?_)
  refine sat_done ?_
  refine exS_normal ?_
  refine ev_ret ?_
  exact FinV.ret rfl (SubP.refl _)

end Go.Proofs.YtjlnanhjhfkddaaDoor
