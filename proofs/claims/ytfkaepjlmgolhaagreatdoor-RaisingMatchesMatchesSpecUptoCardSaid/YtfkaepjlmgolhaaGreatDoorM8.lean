/- Part 8 of the proof. -/
import Derived.Test.YtfkaepjlmgolhaaGreatDoorM7

/- Walks by the evaluator: sameness of values and objects; what links asks. -/
namespace Go.Proofs.YtfkaepjlmgolhaaGreatDoor
open Go.RowKit

def smI (b1 : Bool) (l1 : List Nat) (b2 : Bool) (l2 : List Nat) : Bool := (b1 == b2) && decide (l1 = l2)
theorem smI_iff {b1 b2 : Bool} {l1 l2 : List Nat} : smI b1 l1 b2 l2 = true ↔ b1 = b2 ∧ l1 = l2 := by simp [smI]
def smV (a b : Vl) : Bool := (((decide (a.k = b.k) && decide (a.r = b.r)) && decide (a.s = b.s)) && smI a.nn a.nl b.nn b.nl) && smI a.dn a.dl b.dn b.dl
theorem smV_iff {a b : Vl} : smV a b = true ↔ a = b := by
  cases a; cases b
  simp only [smV, Bool.and_eq_true, decide_eq_true_eq, smI_iff, Vl.mk.injEq]
  constructor
  · rintro ⟨⟨⟨⟨rfl, rfl⟩, rfl⟩, rfl, rfl⟩, rfl, rfl⟩; simp
  · rintro ⟨rfl, rfl, rfl, rfl, rfl, rfl, rfl⟩; simp
instance : DecidableEq Vl := fun _ _ => decidable_of_iff _ smV_iff
theorem smV_eq (a b : Vl) : smV a b = decide (a = b) := by
  rw [Bool.eq_iff_iff, decide_eq_true_eq]; exact smV_iff
def smO (a b : Ob) : Bool := ((((((((((decide (a.kind = b.kind) && decide (a.name = b.name)) && decide (a.cls = b.cls)) && decide (a.code = b.code)) && decide (a.state = b.state)) && decide (a.refs = b.refs)) && decide (a.order = b.order)) && decide (a.names = b.names)) && decide (a.items = b.items)) && decide (a.keys = b.keys)))
theorem smO_iff {a b : Ob} : smO a b = true ↔ a = b := by
  cases a; cases b
  simp only [smO, Bool.and_eq_true, decide_eq_true_eq, Ob.mk.injEq]
  constructor
  · rintro ⟨⟨⟨⟨⟨⟨⟨⟨⟨rfl, rfl⟩, rfl⟩, rfl⟩, rfl⟩, rfl⟩, rfl⟩, rfl⟩, rfl⟩, rfl⟩; simp
  · rintro ⟨rfl, rfl, rfl, rfl, rfl, rfl, rfl, rfl, rfl, rfl⟩; simp
instance : DecidableEq Ob := fun _ _ => decidable_of_iff _ smO_iff
theorem smO_eq (a b : Ob) : smO a b = decide (a = b) := by
  rw [Bool.eq_iff_iff, decide_eq_true_eq]; exact smO_iff
/-- All so far. -/
structure Al {α : Type} (l : List α) (p : α → Bool) where
  k : Nat
  le : k ≤ l.length
  all : ∀ j x, j < k → l[j]? = some x → p x = true
def Al.next {α : Type} {l : List α} {p : α → Bool} {e : α} (x : Al l p) (h1 : x.k < l.length) (h2 : p (l.getD (x.k : Int).toNat e) = true) : Al l p := ⟨x.k + 1, by omega, fun j y hj hy => by
  rcases Nat.lt_succ_iff_lt_or_eq.1 hj with h | rfl
  · exact x.all j y h hy
  · rw [getD_q h1 e] at hy; cases hy; exact h2⟩
theorem Al.yes {α : Type} {l : List α} {p : α → Bool} (x : Al l p) (h1 : ¬ x.k < l.length) : l.all p = true := by
  rw [List.all_eq_true]
  intro y hy
  obtain ⟨j, hj, e⟩ := List.mem_iff_getElem.1 hy
  exact x.all j y (by omega) (by rw [List.getElem?_eq_getElem hj, e])
theorem Al.no {α : Type} {l : List α} {p : α → Bool} {k : Nat} {e : α} (h1 : k < l.length) (h2 : p (l.getD (k : Int).toNat e) = false) : l.all p = false := by
  rw [← Bool.not_eq_true, List.all_eq_true]
  intro h
  have := h (l.getD (k : Int).toNat e) (by rw [getD_l h1]; exact List.getElem_mem _)
  rw [h2] at this; cases this
/-- The number is a place in the heap. -/
def inH (h : List Ob) (n : Int) : Prop := 0 ≤ n ∧ n.toNat < h.length
theorem isObj_in {h : List Ob} {n : Int} (hi : isObj h n = true) : inH h n := isObj_lt hi
/-- The object with a number. -/
abbrev obAt (h : List Ob) (n : Int) : Ob := h.getD n.toNat ob0
def callS (h : List Ob) (v : Vl) : Bool := decide (v.k = 7) || decide ((objS h v).kind = 7)
def excS (h : List Ob) (v : Vl) : Bool := (decide ((objS h v).kind = 10) && isObj h (objS h v).cls) && hasB (obAt h (objS h v).cls).order 28
def isaS (h : List Ob) (v : Vl) (c : Int) : Bool := decide ((objS h v).kind = 10) && hasB (obAt h (objS h v).cls).order c
def rngP (v : Vl) : Bool := decide (v.k = 2) && decide (v.nl.length ≤ 40)
def rngS (o : Ob) : Bool := o.items.all rngP && decide (0 < (o.items.getD 2 vl0).nl.length)
def greatS (k : Int) : Int := if k = 7 then 1 else if k = 17 then 3 else if k = 19 then 3 else if k = 16 ∨ k = 9 then 1099511627776 else if k = 18 then 5000 else 0

theorem SameInt_ok (b1 b2 : Bool) (l1 l2 : List Nat) : Fn Tryz.prog 47 [.agg [.v (.bool b1), usD l1], .agg [.v (.bool b2), usD l2]] (.v (.bool (smI b1 l1 b2 l2))) := by
  refine fn_ev tabT Tryz.func47 rfl rfl rfl rfl rfl rfl ?_
  intro w0 s0 mx
  refine ev_seq (ev_region tabT [] 100 rfl ?_)
  repeat (first | refine sat_same ?_ | refine sat_imp (by first | exact fun hh => hh | (intro hh; simp at hh ⊢; first | omega | exact hh | simp_all) | (simp_all; done)) ?_ | refine sat_need (by first | exact trivial | omega | exact ini (by omega) (by omega) | (intro hh; simp at hh; exact ini (by omega) (by omega)) | (intro hh; simp at hh ⊢; omega) | (simp at *; omega) | (simp_all; done)) ?_)
  refine sat_done ?_
  refine exS_normal ?_
  refine ev_seq (ev_region tabT [] 200 rfl ?_)
  repeat (first | refine sat_same ?_ | refine sat_imp (by first | exact fun hh => hh | (intro hh; simp at hh ⊢; first | omega | exact hh | simp_all) | (simp_all; done)) ?_ | refine sat_need (by first | exact trivial | omega | exact ini (by omega) (by omega) | (intro hh; simp at hh; exact ini (by omega) (by omega)) | (intro hh; simp at hh ⊢; omega) | (simp at *; omega) | (simp_all; done)) ?_)
  refine sat_fnG _ (fun hg10 => EqualU_ok _ _) rfl ?_
  repeat (first | refine sat_same ?_ | refine sat_imp (by first | exact fun hh => hh | (intro hh; simp at hh ⊢; first | omega | exact hh | simp_all) | (simp_all; done)) ?_ | refine sat_need (by first | exact trivial | omega | exact ini (by omega) (by omega) | (intro hh; simp at hh; exact ini (by omega) (by omega)) | (intro hh; simp at hh ⊢; omega) | (simp at *; omega) | (simp_all; done)) ?_)
  refine sat_done ?_
  refine exS_normal ?_
  refine ev_ret ?_
  exact FinV.ret rfl (SubP.refl _)

theorem SameValue_ok (a b : Vl) : Fn Tryz.prog 14 [.agg (vlD a), .agg (vlD b)] (.v (.bool (decide (a = b)))) := by
  refine fn_ev tabT Tryz.func14 rfl rfl rfl rfl rfl rfl ?_
  intro w0 s0 mx
  refine ev_seq (ev_region tabT [] 100 rfl ?_)
  repeat (first | refine sat_same ?_ | refine sat_imp (by first | exact fun hh => hh | (intro hh; simp at hh ⊢; first | omega | exact hh | simp_all) | (simp_all; done)) ?_ | refine sat_need (by first | exact trivial | omega | exact ini (by omega) (by omega) | (intro hh; simp at hh; exact ini (by omega) (by omega)) | (intro hh; simp at hh ⊢; omega) | (simp at *; omega) | (simp_all; done)) ?_)
  refine sat_done ?_
  refine exS_normal ?_
  refine ev_seq (ev_region tabT [] 200 rfl ?_)
  repeat (first | refine sat_same ?_ | refine sat_imp (by first | exact fun hh => hh | (intro hh; simp at hh ⊢; first | omega | exact hh | simp_all) | (simp_all; done)) ?_ | refine sat_need (by first | exact trivial | omega | exact ini (by omega) (by omega) | (intro hh; simp at hh; exact ini (by omega) (by omega)) | (intro hh; simp at hh ⊢; omega) | (simp at *; omega) | (simp_all; done)) ?_)
  refine sat_fnG _ (fun hg24 => SameInt_ok _ _ _ _) rfl ?_
  repeat (first | refine sat_same ?_ | refine sat_imp (by first | exact fun hh => hh | (intro hh; simp at hh ⊢; first | omega | exact hh | simp_all) | (simp_all; done)) ?_ | refine sat_need (by first | exact trivial | omega | exact ini (by omega) (by omega) | (intro hh; simp at hh; exact ini (by omega) (by omega)) | (intro hh; simp at hh ⊢; omega) | (simp at *; omega) | (simp_all; done)) ?_)
  refine sat_fnG _ (fun hg31 => SameInt_ok _ _ _ _) rfl ?_
  repeat (first | refine sat_same ?_ | refine sat_imp (by first | exact fun hh => hh | (intro hh; simp at hh ⊢; first | omega | exact hh | simp_all) | (simp_all; done)) ?_ | refine sat_need (by first | exact trivial | omega | exact ini (by omega) (by omega) | (intro hh; simp at hh; exact ini (by omega) (by omega)) | (intro hh; simp at hh ⊢; omega) | (simp at *; omega) | (simp_all; done)) ?_)
  refine sat_done ?_
  refine exS_normal ?_
  refine ev_ret ?_
  exact FinV.ret rfl (SubP.bool (smV_eq a b))

theorem SameValues_ok (l m : List Vl) : Fn Tryz.prog 38 [vsD l, vsD m] (.v (.bool (decide (l = m)))) := by
  refine fn_ev tabT Tryz.func38 rfl rfl rfl rfl rfl rfl ?_
  intro w0 s0 mx
  refine ev_len 0 rfl fun hl0 => ?_
  refine ev_seq (ev_region tabT [] 100 rfl ?_)
  repeat (first | refine sat_same ?_ | refine sat_imp (by first | exact fun hh => hh | (intro hh; simp at hh ⊢; first | omega | exact hh | simp_all) | (simp_all; done)) ?_ | refine sat_need (by first | exact trivial | omega | exact ini (by omega) (by omega) | (intro hh; simp at hh; exact ini (by omega) (by omega)) | (intro hh; simp at hh ⊢; omega) | (simp at *; omega) | (simp_all; done)) ?_)
  refine sat_done ?_
  refine exS_normal ?_
  refine ev_seq ?_
  refine ev_seq (ev_region tabT [] 200 rfl ?_)
  repeat (first | refine sat_same ?_ | refine sat_imp (by first | exact fun hh => hh | (intro hh; simp at hh ⊢; first | omega | exact hh | simp_all) | (simp_all; done)) ?_ | refine sat_need (by first | exact trivial | omega | exact ini (by omega) (by omega) | (intro hh; simp at hh; exact ini (by omega) (by omega)) | (intro hh; simp at hh ⊢; omega) | (simp at *; omega) | (simp_all; done)) ?_)
  refine sat_done ?_
  refine exS_normal ?_
  refine ev_cond rfl (fun c1 => ?_) (fun c1 => ?_)
  · simp at c1
    refine ev_seq (ev_region tabT [] 300 rfl ?_)
    repeat (first | refine sat_same ?_ | refine sat_imp (by first | exact fun hh => hh | (intro hh; simp at hh ⊢; first | omega | exact hh | simp_all) | (simp_all; done)) ?_ | refine sat_need (by first | exact trivial | omega | exact ini (by omega) (by omega) | (intro hh; simp at hh; exact ini (by omega) (by omega)) | (intro hh; simp at hh ⊢; omega) | (simp at *; omega) | (simp_all; done)) ?_)
    refine sat_done ?_
    refine exS_normal ?_
    refine ev_ret ?_
    refine exS_ret ?_
    exact FinV.ret rfl (SubP.bool (by simp; rintro rfl; exact c1 rfl))
  · simp at c1
    have c1 := Int.ofNat_inj.1 c1
    refine ev_skip ?_
    refine exS_normal ?_
    refine ev_seq ?_
    refine ev_seq (ev_region tabT [] 400 rfl ?_)
    repeat (first | refine sat_same ?_ | refine sat_imp (by first | exact fun hh => hh | (intro hh; simp at hh ⊢; first | omega | exact hh | simp_all) | (simp_all; done)) ?_ | refine sat_need (by first | exact trivial | omega | exact ini (by omega) (by omega) | (intro hh; simp at hh; exact ini (by omega) (by omega)) | (intro hh; simp at hh ⊢; omega) | (simp at *; omega) | (simp_all; done)) ?_)
    refine sat_done ?_
    refine exS_normal ?_
    refine ev_block ?_
    refine ev_loopK (ι := Eq2 l m) [0, 1, 12] [] 450 (fun x => [(13, .v (.int .i64 x.k))]) (fun _ => []) (fun x => l.length - x.k) ⟨0, Nat.zero_le _, rfl⟩ ?_
    refine ⟨⟨(by first | exact trivial | (repeat (first | exact trivial | exact Sub.refl _ | refine ⟨?_, ?_⟩ | exact Sub.int (by first | rfl | omega | (push_cast; omega)) | exact Sub.nilSl | exact Sub.own rfl | exact Sub.slrSl rfl | exact Sub.ownSl (List.map_append).symm | exact Sub.ownSl rfl))), (by repeat (first | exact trivial | exact SubO.same rfl | refine ⟨?_, ?_⟩)), rfl, rfl⟩, fun x => ?_⟩
    have hk := x.le
    refine ev_seq (ev_region tabT [] 500 rfl ?_)
    repeat (first | refine sat_same ?_ | refine sat_imp (by first | exact fun hh => hh | (intro hh; simp at hh ⊢; first | omega | exact hh | simp_all) | (simp_all; done)) ?_ | refine sat_need (by first | exact trivial | omega | exact ini (by omega) (by omega) | (intro hh; simp at hh; exact ini (by omega) (by omega)) | (intro hh; simp at hh ⊢; omega) | (simp at *; omega) | (simp_all; done)) ?_)
    refine sat_done ?_
    refine exS_normal ?_
    refine ev_seq ?_
    refine ev_cond rfl (fun c4 => ?_) (fun c4 => ?_)
    · try simp only [decide_eq_true_eq, decide_eq_false_iff_not, Bool.not_eq_true', Bool.not_eq_false', Bool.and_eq_true, Bool.or_eq_true, Bool.or_eq_false_iff, gt_iff_lt, Int.not_lt, Bool.not_true, Bool.not_false, Int.ofNat_lt, Int.ofNat_le] at c4
      refine ev_skip ?_
      refine exS_normal ?_
      refine ev_seq ?_
      refine ev_block ?_
      refine ev_seq (ev_region tabT [] 600 rfl ?_)
      repeat (first | refine sat_same ?_ | refine sat_imp (by first | exact fun hh => hh | (intro hh; simp at hh ⊢; first | omega | exact hh | simp_all) | (simp_all; done)) ?_ | refine sat_need (by first | exact trivial | omega | exact ini (by omega) (by omega) | (intro hh; simp at hh; exact ini (by omega) (by omega)) | (intro hh; simp at hh ⊢; omega) | (simp at *; omega) | (simp_all; done)) ?_)
      refine sat_done ?_
      refine exS_normal ?_
      refine ev_seq (ev_drawn tabT [] [[], [], [0, 1], [0, 1, 2], [], [], [4, 5], [4, 5, 6], [0, 1, 2, 3, 4, 5, 6, 7], [0, 1, 2, 3, 4, 5, 6, 7, 8]] 700 mixT (by kernel_rfl) rfl ?_)
      repeat (first | refine sat_same ?_ | refine sat_imp (by first | exact fun hh => hh | (intro hh; simp at hh ⊢; first | omega | exact hh | simp_all) | (simp_all; done)) ?_ | refine sat_need (by first | exact trivial | omega | exact ini (by omega) (by omega) | (intro hh; simp at hh; exact ini (by omega) (by omega)) | (intro hh; simp at hh ⊢; omega) | (simp at *; omega) | (simp_all; done)) ?_)
      refine sat_fn _ (SameValue_ok _ _) rfl ?_
      repeat (first | refine sat_same ?_ | refine sat_imp (by first | exact fun hh => hh | (intro hh; simp at hh ⊢; first | omega | exact hh | simp_all) | (simp_all; done)) ?_ | refine sat_need (by first | exact trivial | omega | exact ini (by omega) (by omega) | (intro hh; simp at hh; exact ini (by omega) (by omega)) | (intro hh; simp at hh ⊢; omega) | (simp at *; omega) | (simp_all; done)) ?_)
      refine sat_done ?_
      refine exS_normal ?_
      refine ev_cond rfl (fun c6 => ?_) (fun c6 => ?_)
      · simp only [Bool.not_eq_true', decide_eq_false_iff_not] at c6
        refine ev_seq (ev_region tabT [] 800 rfl ?_)
        repeat (first | refine sat_same ?_ | refine sat_imp (by first | exact fun hh => hh | (intro hh; simp at hh ⊢; first | omega | exact hh | simp_all) | (simp_all; done)) ?_ | refine sat_need (by first | exact trivial | omega | exact ini (by omega) (by omega) | (intro hh; simp at hh; exact ini (by omega) (by omega)) | (intro hh; simp at hh ⊢; omega) | (simp at *; omega) | (simp_all; done)) ?_)
        refine sat_done ?_
        refine exS_normal ?_
        refine ev_ret ?_
        refine exBl_ret ?_
        refine exS_ret ?_
        refine exL_ret ?_
        refine exBl_ret ?_
        refine exS_ret ?_
        exact FinV.ret rfl (SubP.bool (by simpa using ne_at c6))
      · simp only [Bool.not_eq_false', decide_eq_true_eq] at c6
        refine ev_skip ?_
        refine exBl_normal ?_
        refine exS_normal ?_
        refine ev_region tabT [] 900 rfl ?_
        repeat (first | refine sat_same ?_ | refine sat_imp (by first | exact fun hh => hh | (intro hh; simp at hh ⊢; first | omega | exact hh | simp_all) | (simp_all; done)) ?_ | refine sat_need (by first | exact trivial | omega | exact ini (by omega) (by omega) | (intro hh; simp at hh; exact ini (by omega) (by omega)) | (intro hh; simp at hh ⊢; omega) | (simp at *; omega) | (simp_all; done)) ?_)
        refine sat_done ?_
        exact exL_normal (x.next c1 c4 c6) ⟨(by first | exact trivial | (repeat (first | exact trivial | exact Sub.refl _ | refine ⟨?_, ?_⟩ | exact Sub.int (by first | rfl | omega | (push_cast; omega)) | exact Sub.nilSl | exact Sub.own rfl | exact Sub.slrSl rfl | exact Sub.ownSl (List.map_append).symm | exact Sub.ownSl rfl))), (by repeat (first | exact trivial | exact SubO.same rfl | refine ⟨?_, ?_⟩)), rfl, rfl⟩ (by show l.length - (x.k + 1) < l.length - x.k; omega)
    · try simp only [decide_eq_true_eq, decide_eq_false_iff_not, Bool.not_eq_true', Bool.not_eq_false', Bool.and_eq_true, Bool.or_eq_true, Bool.or_eq_false_iff, gt_iff_lt, Int.not_lt, Bool.not_true, Bool.not_false, Int.ofNat_lt, Int.ofNat_le] at c4
      refine ev_exit ?_
      refine exS_exit ?_
      refine exL_exit ?_
      refine exBl_same ?_
      refine exS_normal ?_
      refine ev_seq (ev_region tabT [] 1000 rfl ?_)
      repeat (first | refine sat_same ?_ | refine sat_imp (by first | exact fun hh => hh | (intro hh; simp at hh ⊢; first | omega | exact hh | simp_all) | (simp_all; done)) ?_ | refine sat_need (by first | exact trivial | omega | exact ini (by omega) (by omega) | (intro hh; simp at hh; exact ini (by omega) (by omega)) | (intro hh; simp at hh ⊢; omega) | (simp at *; omega) | (simp_all; done)) ?_)
      refine sat_done ?_
      refine exS_normal ?_
      refine ev_ret ?_
      exact FinV.ret rfl (SubP.bool (by simpa using x.all c1 c4))

theorem SameObject_ok (a b : Ob) : Fn Tryz.prog 51 [.agg (obD a), .agg (obD b)] (.v (.bool (decide (a = b)))) := by
  refine fn_ev tabT Tryz.func51 rfl rfl rfl rfl rfl rfl ?_
  intro w0 s0 mx
  refine ev_seq (ev_region tabT [] 100 rfl ?_)
  repeat (first | refine sat_same ?_ | refine sat_imp (by first | exact fun hh => hh | (intro hh; simp at hh ⊢; first | omega | exact hh | simp_all) | (simp_all; done)) ?_ | refine sat_need (by first | exact trivial | omega | exact ini (by omega) (by omega) | (intro hh; simp at hh; exact ini (by omega) (by omega)) | (intro hh; simp at hh ⊢; omega) | (simp at *; omega) | (simp_all; done)) ?_)
  refine sat_done ?_
  refine exS_normal ?_
  refine ev_seq (ev_region tabT [] 200 rfl ?_)
  repeat (first | refine sat_same ?_ | refine sat_imp (by first | exact fun hh => hh | (intro hh; simp at hh ⊢; first | omega | exact hh | simp_all) | (simp_all; done)) ?_ | refine sat_need (by first | exact trivial | omega | exact ini (by omega) (by omega) | (intro hh; simp at hh; exact ini (by omega) (by omega)) | (intro hh; simp at hh ⊢; omega) | (simp at *; omega) | (simp_all; done)) ?_)
  refine sat_fnG _ (fun hg38 => Ints_ok _ _) rfl ?_
  repeat (first | refine sat_same ?_ | refine sat_imp (by first | exact fun hh => hh | (intro hh; simp at hh ⊢; first | omega | exact hh | simp_all) | (simp_all; done)) ?_ | refine sat_need (by first | exact trivial | omega | exact ini (by omega) (by omega) | (intro hh; simp at hh; exact ini (by omega) (by omega)) | (intro hh; simp at hh ⊢; omega) | (simp at *; omega) | (simp_all; done)) ?_)
  refine sat_fnG _ (fun hg45 => Ints_ok _ _) rfl ?_
  repeat (first | refine sat_same ?_ | refine sat_imp (by first | exact fun hh => hh | (intro hh; simp at hh ⊢; first | omega | exact hh | simp_all) | (simp_all; done)) ?_ | refine sat_need (by first | exact trivial | omega | exact ini (by omega) (by omega) | (intro hh; simp at hh; exact ini (by omega) (by omega)) | (intro hh; simp at hh ⊢; omega) | (simp at *; omega) | (simp_all; done)) ?_)
  refine sat_fnG _ (fun hg52 => Strings_ok _ _) rfl ?_
  repeat (first | refine sat_same ?_ | refine sat_imp (by first | exact fun hh => hh | (intro hh; simp at hh ⊢; first | omega | exact hh | simp_all) | (simp_all; done)) ?_ | refine sat_need (by first | exact trivial | omega | exact ini (by omega) (by omega) | (intro hh; simp at hh; exact ini (by omega) (by omega)) | (intro hh; simp at hh ⊢; omega) | (simp at *; omega) | (simp_all; done)) ?_)
  refine sat_fnG _ (fun hg59 => SameValues_ok _ _) rfl ?_
  repeat (first | refine sat_same ?_ | refine sat_imp (by first | exact fun hh => hh | (intro hh; simp at hh ⊢; first | omega | exact hh | simp_all) | (simp_all; done)) ?_ | refine sat_need (by first | exact trivial | omega | exact ini (by omega) (by omega) | (intro hh; simp at hh; exact ini (by omega) (by omega)) | (intro hh; simp at hh ⊢; omega) | (simp at *; omega) | (simp_all; done)) ?_)
  refine sat_fnG _ (fun hg66 => SameValues_ok _ _) rfl ?_
  repeat (first | refine sat_same ?_ | refine sat_imp (by first | exact fun hh => hh | (intro hh; simp at hh ⊢; first | omega | exact hh | simp_all) | (simp_all; done)) ?_ | refine sat_need (by first | exact trivial | omega | exact ini (by omega) (by omega) | (intro hh; simp at hh; exact ini (by omega) (by omega)) | (intro hh; simp at hh ⊢; omega) | (simp at *; omega) | (simp_all; done)) ?_)
  refine sat_done ?_
  refine exS_normal ?_
  refine ev_ret ?_
  exact FinV.ret rfl (SubP.bool (smO_eq a b))

theorem callable_ok (h : List Ob) (v : Vl) : Fn Tryz.prog 92 [hpD h, .agg (vlD v)] (.v (.bool (callS h v))) := by
  refine fn_ev tabT Tryz.func92 rfl rfl rfl rfl rfl rfl ?_
  intro w0 s0 mx
  refine ev_seq (ev_region tabT [] 100 rfl ?_)
  repeat (first | refine sat_same ?_ | refine sat_imp (by first | exact fun hh => hh | (intro hh; simp at hh ⊢; first | omega | exact hh | simp_all) | (simp_all; done)) ?_ | refine sat_need (by first | exact trivial | omega | exact ini (by omega) (by omega) | (intro hh; simp at hh; exact ini (by omega) (by omega)) | (intro hh; simp at hh ⊢; omega) | (simp at *; omega) | (simp_all; done)) ?_)
  refine sat_done ?_
  refine exS_normal ?_
  refine ev_seq (ev_region tabT [] 200 rfl ?_)
  repeat (first | refine sat_same ?_ | refine sat_imp (by first | exact fun hh => hh | (intro hh; simp at hh ⊢; first | omega | exact hh | simp_all) | (simp_all; done)) ?_ | refine sat_need (by first | exact trivial | omega | exact ini (by omega) (by omega) | (intro hh; simp at hh; exact ini (by omega) (by omega)) | (intro hh; simp at hh ⊢; omega) | (simp at *; omega) | (simp_all; done)) ?_)
  refine sat_fnG _ (fun hg6 => Obj_ok _ _) rfl ?_
  repeat (first | refine sat_same ?_ | refine sat_imp (by first | exact fun hh => hh | (intro hh; simp at hh ⊢; first | omega | exact hh | simp_all) | (simp_all; done)) ?_ | refine sat_need (by first | exact trivial | omega | exact ini (by omega) (by omega) | (intro hh; simp at hh; exact ini (by omega) (by omega)) | (intro hh; simp at hh ⊢; omega) | (simp at *; omega) | (simp_all; done)) ?_)
  refine sat_done ?_
  refine exS_normal ?_
  refine ev_ret ?_
  exact FinV.ret rfl (SubP.refl _)

theorem isClass_ok (h : List Ob) (n : Int) (hn : inH h n) : Fn Tryz.prog 93 [hpD h, .v (.int .i64 n)] (.v (.bool (decide ((obAt h n).kind = 9)))) := by
  refine fn_ev tabT Tryz.func93 rfl rfl rfl rfl rfl rfl ?_
  intro w0 s0 mx
  refine ev_seq (ev_region tabT [] 100 rfl ?_)
  repeat (first | refine sat_same ?_ | refine sat_imp (by first | exact fun hh => hh | (intro hh; simp at hh ⊢; first | omega | exact hh | simp_all) | (simp_all; done)) ?_ | refine sat_need (by exact hn) ?_)
  refine sat_done ?_
  refine exS_normal ?_
  refine ev_seq (ev_region tabT [] 200 rfl ?_)
  repeat (first | refine sat_same ?_ | refine sat_imp (by first | exact fun hh => hh | (intro hh; simp at hh ⊢; first | omega | exact hh | simp_all) | (simp_all; done)) ?_ | refine sat_need (by exact hn) ?_)
  refine sat_done ?_
  refine exS_normal ?_
  refine ev_ret ?_
  exact FinV.ret rfl (SubP.refl _)

theorem DerivesFrom_ok (h : List Ob) (c b : Int) (hn : inH h c) : Fn Tryz.prog 33 [hpD h, .v (.int .i64 c), .v (.int .i64 b)] (.v (.bool (hasB (obAt h c).order b))) := by
  refine fn_ev tabT Tryz.func33 rfl rfl rfl rfl rfl rfl ?_
  intro w0 s0 mx
  refine ev_seq (ev_region tabT [] 100 rfl ?_)
  repeat (first | refine sat_same ?_ | refine sat_imp (by first | exact fun hh => hh | (intro hh; simp at hh ⊢; first | omega | exact hh | simp_all) | (simp_all; done)) ?_ | refine sat_need (by exact hn) ?_)
  refine sat_done ?_
  refine exS_normal ?_
  refine ev_seq (ev_region tabT [] 200 rfl ?_)
  repeat (first | refine sat_same ?_ | refine sat_imp (by first | exact fun hh => hh | (intro hh; simp at hh ⊢; first | omega | exact hh | simp_all) | (simp_all; done)) ?_ | refine sat_need (by exact hn) ?_)
  refine sat_fn _ (ContainsI_ok _ _) rfl ?_
  repeat (first | refine sat_same ?_ | refine sat_imp (by first | exact fun hh => hh | (intro hh; simp at hh ⊢; first | omega | exact hh | simp_all) | (simp_all; done)) ?_ | refine sat_need (by exact hn) ?_)
  refine sat_done ?_
  refine exS_normal ?_
  refine ev_ret ?_
  exact FinV.ret rfl (SubP.refl _)

theorem Exception_ok (h : List Ob) (v : Vl) : Fn Tryz.prog 10 [hpD h, .agg (vlD v)] (.v (.bool (excS h v))) := by
  refine fn_ev tabT Tryz.func10 rfl rfl rfl rfl rfl rfl ?_
  intro w0 s0 mx
  refine ev_seq (ev_region tabT [] 100 rfl ?_)
  repeat (first | refine sat_same ?_ | refine sat_imp (by first | exact fun hh => hh | (intro hh; simp at hh ⊢; first | omega | exact hh | simp_all) | (simp_all; done)) ?_ | refine sat_need (by first | exact trivial | omega | exact ini (by omega) (by omega) | (intro hh; simp at hh; exact ini (by omega) (by omega)) | (intro hh; simp at hh ⊢; omega) | (simp at *; omega) | (simp_all; done)) ?_)
  refine sat_done ?_
  refine exS_normal ?_
  refine ev_seq (ev_region tabT [] 200 rfl ?_)
  repeat (first | refine sat_same ?_ | refine sat_imp (by first | exact fun hh => hh | (intro hh; simp at hh ⊢; first | omega | exact hh | simp_all) | (simp_all; done)) ?_ | refine sat_need (by first | exact trivial | omega | exact ini (by omega) (by omega) | (intro hh; simp at hh; exact ini (by omega) (by omega)) | (intro hh; simp at hh ⊢; omega) | (simp at *; omega) | (simp_all; done)) ?_)
  refine sat_fn _ (Obj_ok _ _) rfl ?_
  repeat (first | refine sat_same ?_ | refine sat_imp (by first | exact fun hh => hh | (intro hh; simp at hh ⊢; first | omega | exact hh | simp_all) | (simp_all; done)) ?_ | refine sat_need (by first | exact trivial | omega | exact ini (by omega) (by omega) | (intro hh; simp at hh; exact ini (by omega) (by omega)) | (intro hh; simp at hh ⊢; omega) | (simp at *; omega) | (simp_all; done)) ?_)
  refine sat_done ?_
  refine exS_normal ?_
  refine ev_seq (ev_region tabT [] 300 rfl ?_)
  repeat (first | refine sat_same ?_ | refine sat_imp (by first | exact fun hh => hh | (intro hh; simp at hh ⊢; first | omega | exact hh | simp_all) | (simp_all; done)) ?_ | refine sat_need (by intro hh; simp at hh; exact isObj_in hh.2) ?_)
  refine sat_fnG _ (fun hg7 => IsObject_ok _ _) rfl ?_
  repeat (first | refine sat_same ?_ | refine sat_imp (by first | exact fun hh => hh | (intro hh; simp at hh ⊢; first | omega | exact hh | simp_all) | (simp_all; done)) ?_ | refine sat_need (by intro hh; simp at hh; exact isObj_in hh.2) ?_)
  refine sat_fnG _ (fun hg17 => ContainsI_ok _ _) rfl ?_
  repeat (first | refine sat_same ?_ | refine sat_imp (by first | exact fun hh => hh | (intro hh; simp at hh ⊢; first | omega | exact hh | simp_all) | (simp_all; done)) ?_ | refine sat_need (by intro hh; simp at hh; exact isObj_in hh.2) ?_)
  refine sat_done ?_
  refine exS_normal ?_
  refine ev_ret ?_
  exact FinV.ret rfl (SubP.refl _)

theorem IsA_ok (h : List Ob) (v : Vl) (c : Int) (hc : (objS h v).kind = 10 → inH h (objS h v).cls) : Fn Tryz.prog 9 [hpD h, .agg (vlD v), .v (.int .i64 c)] (.v (.bool (isaS h v c))) := by
  refine fn_ev tabT Tryz.func9 rfl rfl rfl rfl rfl rfl ?_
  intro w0 s0 mx
  refine ev_seq (ev_region tabT [] 100 rfl ?_)
  repeat (first | refine sat_same ?_ | refine sat_imp (by first | exact fun hh => hh | (intro hh; simp at hh ⊢; first | omega | exact hh | simp_all) | (simp_all; done)) ?_ | refine sat_need (by first | exact trivial | omega | exact ini (by omega) (by omega) | (intro hh; simp at hh; exact ini (by omega) (by omega)) | (intro hh; simp at hh ⊢; omega) | (simp at *; omega) | (simp_all; done)) ?_)
  refine sat_done ?_
  refine exS_normal ?_
  refine ev_seq (ev_region tabT [] 200 rfl ?_)
  repeat (first | refine sat_same ?_ | refine sat_imp (by first | exact fun hh => hh | (intro hh; simp at hh ⊢; first | omega | exact hh | simp_all) | (simp_all; done)) ?_ | refine sat_need (by first | exact trivial | omega | exact ini (by omega) (by omega) | (intro hh; simp at hh; exact ini (by omega) (by omega)) | (intro hh; simp at hh ⊢; omega) | (simp at *; omega) | (simp_all; done)) ?_)
  refine sat_fn _ (Obj_ok _ _) rfl ?_
  repeat (first | refine sat_same ?_ | refine sat_imp (by first | exact fun hh => hh | (intro hh; simp at hh ⊢; first | omega | exact hh | simp_all) | (simp_all; done)) ?_ | refine sat_need (by first | exact trivial | omega | exact ini (by omega) (by omega) | (intro hh; simp at hh; exact ini (by omega) (by omega)) | (intro hh; simp at hh ⊢; omega) | (simp at *; omega) | (simp_all; done)) ?_)
  refine sat_done ?_
  refine exS_normal ?_
  refine ev_seq (ev_region tabT [] 300 rfl ?_)
  repeat (first | refine sat_same ?_ | refine sat_imp (by first | exact fun hh => hh | (intro hh; simp at hh ⊢; first | omega | exact hh | simp_all) | (simp_all; done)) ?_ | refine sat_need (by first | exact trivial | omega | exact ini (by omega) (by omega) | (intro hh; simp at hh; exact ini (by omega) (by omega)) | (intro hh; simp at hh ⊢; omega) | (simp at *; omega) | (simp_all; done)) ?_)
  refine sat_fnG _ (fun hg8 => DerivesFrom_ok _ _ _ (hc (by simpa using hg8))) rfl ?_
  repeat (first | refine sat_same ?_ | refine sat_imp (by first | exact fun hh => hh | (intro hh; simp at hh ⊢; first | omega | exact hh | simp_all) | (simp_all; done)) ?_ | refine sat_need (by first | exact trivial | omega | exact ini (by omega) (by omega) | (intro hh; simp at hh; exact ini (by omega) (by omega)) | (intro hh; simp at hh ⊢; omega) | (simp at *; omega) | (simp_all; done)) ?_)
  refine sat_done ?_
  refine exS_normal ?_
  refine ev_ret ?_
  exact FinV.ret rfl (SubP.refl _)

theorem RangeOk_ok (o : Ob) (ho : 2 < o.items.length) (hl : o.items.length ≤ 2000000) : Fn Tryz.prog 91 [.agg (obD o)] (.v (.bool (rngS o))) := by
  refine fn_ev tabT Tryz.func91 rfl rfl rfl rfl rfl rfl ?_
  intro w0 s0 mx
  refine ev_seq (ev_region tabT [] 100 rfl ?_)
  repeat (first | refine sat_same ?_ | refine sat_imp (by first | exact fun hh => hh | (intro hh; simp at hh ⊢; first | omega | exact hh | simp_all) | (simp_all; done)) ?_ | refine sat_need (by first | exact trivial | omega | exact ini (by omega) (by omega) | (intro hh; simp at hh; exact ini (by omega) (by omega)) | (intro hh; simp at hh ⊢; omega) | (simp at *; omega) | (simp_all; done)) ?_)
  refine sat_done ?_
  refine exS_normal ?_
  refine ev_seq ?_
  refine ev_seq (ev_region tabT [] 200 rfl ?_)
  repeat (first | refine sat_same ?_ | refine sat_imp (by first | exact fun hh => hh | (intro hh; simp at hh ⊢; first | omega | exact hh | simp_all) | (simp_all; done)) ?_ | refine sat_need (by first | exact trivial | omega | exact ini (by omega) (by omega) | (intro hh; simp at hh; exact ini (by omega) (by omega)) | (intro hh; simp at hh ⊢; omega) | (simp at *; omega) | (simp_all; done)) ?_)
  refine sat_done ?_
  refine exS_normal ?_
  refine ev_block ?_
  refine ev_loopK (ι := Al o.items rngP) [1, 6, 7] [0] 250 (fun x => [(8, .v (.int .i64 x.k))]) (fun _ => []) (fun x => o.items.length - x.k) ⟨0, Nat.zero_le _, fun j x hj => by omega⟩ ?_
  refine ⟨⟨(by first | exact trivial | (repeat (first | exact trivial | exact Sub.refl _ | refine ⟨?_, ?_⟩ | exact Sub.int (by first | rfl | omega | (push_cast; omega)) | exact Sub.nilSl | exact Sub.own rfl | exact Sub.slrSl rfl | exact Sub.ownSl (List.map_append).symm | exact Sub.ownSl rfl))), (by repeat (first | exact trivial | exact SubO.same rfl | refine ⟨?_, ?_⟩)), rfl, rfl⟩, fun x => ?_⟩
  have hk := x.le
  refine ev_seq (ev_region tabT [] 300 rfl ?_)
  repeat (first | refine sat_same ?_ | refine sat_imp (by first | exact fun hh => hh | (intro hh; simp at hh ⊢; first | omega | exact hh | simp_all) | (simp_all; done)) ?_ | refine sat_need (by first | exact trivial | omega | exact ini (by omega) (by omega) | (intro hh; simp at hh; exact ini (by omega) (by omega)) | (intro hh; simp at hh ⊢; omega) | (simp at *; omega) | (simp_all; done)) ?_)
  refine sat_done ?_
  refine exS_normal ?_
  refine ev_seq ?_
  refine ev_cond rfl (fun c2 => ?_) (fun c2 => ?_)
  · try simp only [decide_eq_true_eq, decide_eq_false_iff_not, Bool.not_eq_true', Bool.not_eq_false', Bool.and_eq_true, Bool.or_eq_true, Bool.or_eq_false_iff, gt_iff_lt, Int.not_lt, Bool.not_true, Bool.not_false, Int.ofNat_lt, Int.ofNat_le] at c2
    refine ev_skip ?_
    refine exS_normal ?_
    refine ev_seq ?_
    refine ev_block ?_
    refine ev_seq (ev_region tabT [] 400 rfl ?_)
    repeat (first | refine sat_same ?_ | refine sat_imp (by first | exact fun hh => hh | (intro hh; simp at hh ⊢; first | omega | exact hh | simp_all) | (simp_all; done)) ?_ | refine sat_need (by first | exact trivial | omega | exact ini (by omega) (by omega) | (intro hh; simp at hh; exact ini (by omega) (by omega)) | (intro hh; simp at hh ⊢; omega) | (simp at *; omega) | (simp_all; done)) ?_)
    refine sat_done ?_
    refine exS_normal ?_
    refine ev_seq (ev_region tabT [] 500 rfl ?_)
    repeat (first | refine sat_same ?_ | refine sat_imp (by first | exact fun hh => hh | (intro hh; simp at hh ⊢; first | omega | exact hh | simp_all) | (simp_all; done)) ?_ | refine sat_need (by first | exact trivial | omega | exact ini (by omega) (by omega) | (intro hh; simp at hh; exact ini (by omega) (by omega)) | (intro hh; simp at hh ⊢; omega) | (simp at *; omega) | (simp_all; done)) ?_)
    refine sat_done ?_
    refine exS_normal ?_
    refine ev_cond rfl (fun c4 => ?_) (fun c4 => ?_)
    · try simp only [decide_eq_true_eq, decide_eq_false_iff_not, Bool.not_eq_true', Bool.not_eq_false', Bool.and_eq_true, Bool.or_eq_true, Bool.or_eq_false_iff, gt_iff_lt, Int.not_lt, Bool.not_true, Bool.not_false, Int.ofNat_lt, Int.ofNat_le] at c4
      refine ev_seq (ev_region tabT [] 600 rfl ?_)
      repeat (first | refine sat_same ?_ | refine sat_imp (by first | exact fun hh => hh | (intro hh; simp at hh ⊢; first | omega | exact hh | simp_all) | (simp_all; done)) ?_ | refine sat_need (by first | exact trivial | omega | exact ini (by omega) (by omega) | (intro hh; simp at hh; exact ini (by omega) (by omega)) | (intro hh; simp at hh ⊢; omega) | (simp at *; omega) | (simp_all; done)) ?_)
      refine sat_done ?_
      refine exS_normal ?_
      refine ev_ret ?_
      refine exBl_ret ?_
      refine exS_ret ?_
      refine exL_ret ?_
      refine exBl_ret ?_
      refine exS_ret ?_
      exact FinV.ret rfl (SubP.bool (by rw [rngS, Al.no (e := vl0) c2 (by
          rw [← Bool.not_eq_true]
          simp only [rngP, Bool.and_eq_true, decide_eq_true_eq]
          rcases c4 with c4 | c4
          · exact fun h => c4 h.1
          · exact fun h => by have := h.2; omega)]; rfl))
    · try simp only [decide_eq_true_eq, decide_eq_false_iff_not, Bool.not_eq_true', Bool.not_eq_false', Bool.and_eq_true, Bool.or_eq_true, Bool.or_eq_false_iff, gt_iff_lt, Int.not_lt, Bool.not_true, Bool.not_false, Int.ofNat_lt, Int.ofNat_le] at c4
      refine ev_skip ?_
      refine exBl_normal ?_
      refine exS_normal ?_
      refine ev_region tabT [] 700 rfl ?_
      repeat (first | refine sat_same ?_ | refine sat_imp (by first | exact fun hh => hh | (intro hh; simp at hh ⊢; first | omega | exact hh | simp_all) | (simp_all; done)) ?_ | refine sat_need (by first | exact trivial | omega | exact ini (by omega) (by omega) | (intro hh; simp at hh; exact ini (by omega) (by omega)) | (intro hh; simp at hh ⊢; omega) | (simp at *; omega) | (simp_all; done)) ?_)
      refine sat_done ?_
      exact exL_normal (x.next (e := vl0) c2 (by rw [rngP, decide_eq_true c4.1, decide_eq_true (by omega)]; rfl)) ⟨(by first | exact trivial | (repeat (first | exact trivial | exact Sub.refl _ | refine ⟨?_, ?_⟩ | exact Sub.int (by first | rfl | omega | (push_cast; omega)) | exact Sub.nilSl | exact Sub.own rfl | exact Sub.slrSl rfl | exact Sub.ownSl (List.map_append).symm | exact Sub.ownSl rfl))), (by repeat (first | exact trivial | exact SubO.same rfl | refine ⟨?_, ?_⟩)), rfl, rfl⟩ (by show o.items.length - (x.k + 1) < o.items.length - x.k; omega)
  · try simp only [decide_eq_true_eq, decide_eq_false_iff_not, Bool.not_eq_true', Bool.not_eq_false', Bool.and_eq_true, Bool.or_eq_true, Bool.or_eq_false_iff, gt_iff_lt, Int.not_lt, Bool.not_true, Bool.not_false, Int.ofNat_lt, Int.ofNat_le] at c2
    refine ev_exit ?_
    refine exS_exit ?_
    refine exL_exit ?_
    refine exBl_same ?_
    refine exS_normal ?_
    refine ev_seq (ev_region tabT [] 800 rfl ?_)
    repeat (first | refine sat_same ?_ | refine sat_imp (by first | exact fun hh => hh | (intro hh; simp at hh ⊢; first | omega | exact hh | simp_all) | (simp_all; done)) ?_ | refine sat_need (by exact ⟨by decide, ho⟩) ?_)
    refine sat_done ?_
    refine exS_normal ?_
    refine ev_ret ?_
    exact FinV.ret rfl (SubP.bool (by rw [rngS, x.yes c2]; simp))

theorem greatest_ok (k : Int) : Fn Tryz.prog 88 [.v (.int .i64 k)] (.v (.int .i64 (greatS k))) := by
  refine fn_ev tabT Tryz.func88 rfl rfl rfl rfl rfl rfl ?_
  intro w0 s0 mx
  refine ev_seq (ev_region tabT [] 100 rfl ?_)
  repeat (first | refine sat_same ?_ | refine sat_imp (by first | exact fun hh => hh | (intro hh; simp at hh ⊢; first | omega | exact hh | simp_all) | (simp_all; done)) ?_ | refine sat_need (by first | exact trivial | omega | exact ini (by omega) (by omega) | (intro hh; simp at hh; exact ini (by omega) (by omega)) | (intro hh; simp at hh ⊢; omega) | (simp at *; omega) | (simp_all; done)) ?_)
  refine sat_done ?_
  refine exS_normal ?_
  refine ev_seq ?_
  refine ev_seq (ev_region tabT [] 200 rfl ?_)
  repeat (first | refine sat_same ?_ | refine sat_imp (by first | exact fun hh => hh | (intro hh; simp at hh ⊢; first | omega | exact hh | simp_all) | (simp_all; done)) ?_ | refine sat_need (by first | exact trivial | omega | exact ini (by omega) (by omega) | (intro hh; simp at hh; exact ini (by omega) (by omega)) | (intro hh; simp at hh ⊢; omega) | (simp at *; omega) | (simp_all; done)) ?_)
  refine sat_done ?_
  refine exS_normal ?_
  refine ev_block ?_
  refine ev_seq (ev_region tabT [] 300 rfl ?_)
  repeat (first | refine sat_same ?_ | refine sat_imp (by first | exact fun hh => hh | (intro hh; simp at hh ⊢; first | omega | exact hh | simp_all) | (simp_all; done)) ?_ | refine sat_need (by first | exact trivial | omega | exact ini (by omega) (by omega) | (intro hh; simp at hh; exact ini (by omega) (by omega)) | (intro hh; simp at hh ⊢; omega) | (simp at *; omega) | (simp_all; done)) ?_)
  refine sat_done ?_
  refine exS_normal ?_
  refine ev_cond rfl (fun c2 => ?_) (fun c2 => ?_)
  · try simp only [decide_eq_true_eq, decide_eq_false_iff_not, Bool.not_eq_true', Bool.not_eq_false', Bool.and_eq_true, Bool.or_eq_true, Bool.or_eq_false_iff, gt_iff_lt, Int.not_lt, Bool.not_true, Bool.not_false, Int.ofNat_lt, Int.ofNat_le] at c2
    refine ev_seq (ev_region tabT [] 400 rfl ?_)
    repeat (first | refine sat_same ?_ | refine sat_imp (by first | exact fun hh => hh | (intro hh; simp at hh ⊢; first | omega | exact hh | simp_all) | (simp_all; done)) ?_ | refine sat_need (by first | exact trivial | omega | exact ini (by omega) (by omega) | (intro hh; simp at hh; exact ini (by omega) (by omega)) | (intro hh; simp at hh ⊢; omega) | (simp at *; omega) | (simp_all; done)) ?_)
    refine sat_done ?_
    refine exS_normal ?_
    refine ev_ret ?_
    refine exBl_ret ?_
    refine exS_ret ?_
    exact FinV.ret rfl (SubP.int (by simp_all [greatS]))
  · try simp only [decide_eq_true_eq, decide_eq_false_iff_not, Bool.not_eq_true', Bool.not_eq_false', Bool.and_eq_true, Bool.or_eq_true, Bool.or_eq_false_iff, gt_iff_lt, Int.not_lt, Bool.not_true, Bool.not_false, Int.ofNat_lt, Int.ofNat_le] at c2
    refine ev_seq (ev_region tabT [] 500 rfl ?_)
    repeat (first | refine sat_same ?_ | refine sat_imp (by first | exact fun hh => hh | (intro hh; simp at hh ⊢; first | omega | exact hh | simp_all) | (simp_all; done)) ?_ | refine sat_need (by first | exact trivial | omega | exact ini (by omega) (by omega) | (intro hh; simp at hh; exact ini (by omega) (by omega)) | (intro hh; simp at hh ⊢; omega) | (simp at *; omega) | (simp_all; done)) ?_)
    refine sat_done ?_
    refine exS_normal ?_
    refine ev_cond rfl (fun c4 => ?_) (fun c4 => ?_)
    · try simp only [decide_eq_true_eq, decide_eq_false_iff_not, Bool.not_eq_true', Bool.not_eq_false', Bool.and_eq_true, Bool.or_eq_true, Bool.or_eq_false_iff, gt_iff_lt, Int.not_lt, Bool.not_true, Bool.not_false, Int.ofNat_lt, Int.ofNat_le] at c4
      refine ev_seq (ev_region tabT [] 600 rfl ?_)
      repeat (first | refine sat_same ?_ | refine sat_imp (by first | exact fun hh => hh | (intro hh; simp at hh ⊢; first | omega | exact hh | simp_all) | (simp_all; done)) ?_ | refine sat_need (by first | exact trivial | omega | exact ini (by omega) (by omega) | (intro hh; simp at hh; exact ini (by omega) (by omega)) | (intro hh; simp at hh ⊢; omega) | (simp at *; omega) | (simp_all; done)) ?_)
      refine sat_done ?_
      refine exS_normal ?_
      refine ev_ret ?_
      refine exBl_ret ?_
      refine exS_ret ?_
      exact FinV.ret rfl (SubP.int (by simp_all [greatS]))
    · try simp only [decide_eq_true_eq, decide_eq_false_iff_not, Bool.not_eq_true', Bool.not_eq_false', Bool.and_eq_true, Bool.or_eq_true, Bool.or_eq_false_iff, gt_iff_lt, Int.not_lt, Bool.not_true, Bool.not_false, Int.ofNat_lt, Int.ofNat_le] at c4
      refine ev_seq (ev_region tabT [] 700 rfl ?_)
      repeat (first | refine sat_same ?_ | refine sat_imp (by first | exact fun hh => hh | (intro hh; simp at hh ⊢; first | omega | exact hh | simp_all) | (simp_all; done)) ?_ | refine sat_need (by first | exact trivial | omega | exact ini (by omega) (by omega) | (intro hh; simp at hh; exact ini (by omega) (by omega)) | (intro hh; simp at hh ⊢; omega) | (simp at *; omega) | (simp_all; done)) ?_)
      refine sat_done ?_
      refine exS_normal ?_
      refine ev_cond rfl (fun c6 => ?_) (fun c6 => ?_)
      · try simp only [decide_eq_true_eq, decide_eq_false_iff_not, Bool.not_eq_true', Bool.not_eq_false', Bool.and_eq_true, Bool.or_eq_true, Bool.or_eq_false_iff, gt_iff_lt, Int.not_lt, Bool.not_true, Bool.not_false, Int.ofNat_lt, Int.ofNat_le] at c6
        refine ev_seq (ev_region tabT [] 800 rfl ?_)
        repeat (first | refine sat_same ?_ | refine sat_imp (by first | exact fun hh => hh | (intro hh; simp at hh ⊢; first | omega | exact hh | simp_all) | (simp_all; done)) ?_ | refine sat_need (by first | exact trivial | omega | exact ini (by omega) (by omega) | (intro hh; simp at hh; exact ini (by omega) (by omega)) | (intro hh; simp at hh ⊢; omega) | (simp at *; omega) | (simp_all; done)) ?_)
        refine sat_done ?_
        refine exS_normal ?_
        refine ev_ret ?_
        refine exBl_ret ?_
        refine exS_ret ?_
        exact FinV.ret rfl (SubP.int (by simp_all [greatS]))
      · try simp only [decide_eq_true_eq, decide_eq_false_iff_not, Bool.not_eq_true', Bool.not_eq_false', Bool.and_eq_true, Bool.or_eq_true, Bool.or_eq_false_iff, gt_iff_lt, Int.not_lt, Bool.not_true, Bool.not_false, Int.ofNat_lt, Int.ofNat_le] at c6
        refine ev_seq ?_
        refine ev_seq (ev_region tabT [] 900 rfl ?_)
        repeat (first | refine sat_same ?_ | refine sat_imp (by first | exact fun hh => hh | (intro hh; simp at hh ⊢; first | omega | exact hh | simp_all) | (simp_all; done)) ?_ | refine sat_need (by first | exact trivial | omega | exact ini (by omega) (by omega) | (intro hh; simp at hh; exact ini (by omega) (by omega)) | (intro hh; simp at hh ⊢; omega) | (simp at *; omega) | (simp_all; done)) ?_)
        refine sat_done ?_
        refine exS_normal ?_
        refine ev_cond rfl (fun c8 => ?_) (fun c8 => ?_)
        · try simp only [decide_eq_true_eq, decide_eq_false_iff_not, Bool.not_eq_true', Bool.not_eq_false', Bool.and_eq_true, Bool.or_eq_true, Bool.or_eq_false_iff, gt_iff_lt, Int.not_lt, Bool.not_true, Bool.not_false, Int.ofNat_lt, Int.ofNat_le] at c8
          refine ev_skip ?_
          refine exS_normal ?_
          refine ev_cond rfl (fun c8x => ?_) (fun c8x => ?_)
          · try simp only [decide_eq_true_eq, decide_eq_false_iff_not, Bool.not_eq_true', Bool.not_eq_false', Bool.and_eq_true, Bool.or_eq_true, Bool.or_eq_false_iff, gt_iff_lt, Int.not_lt, Bool.not_true, Bool.not_false, Int.ofNat_lt, Int.ofNat_le] at c8x
            refine ev_seq (ev_region tabT [] 1100 rfl ?_)
            repeat (first | refine sat_same ?_ | refine sat_imp (by first | exact fun hh => hh | (intro hh; simp at hh ⊢; first | omega | exact hh | simp_all) | (simp_all; done)) ?_ | refine sat_need (by first | exact trivial | omega | exact ini (by omega) (by omega) | (intro hh; simp at hh; exact ini (by omega) (by omega)) | (intro hh; simp at hh ⊢; omega) | (simp at *; omega) | (simp_all; done)) ?_)
            refine sat_done ?_
            refine exS_normal ?_
            refine ev_ret ?_
            refine exBl_ret ?_
            refine exS_ret ?_
            exact FinV.ret rfl (SubP.int (by simp_all [greatS]))
          · try simp only [decide_eq_true_eq, decide_eq_false_iff_not, Bool.not_eq_true', Bool.not_eq_false', Bool.and_eq_true, Bool.or_eq_true, Bool.or_eq_false_iff, gt_iff_lt, Int.not_lt, Bool.not_true, Bool.not_false, Int.ofNat_lt, Int.ofNat_le] at c8x
            simp_all
        · try simp only [decide_eq_true_eq, decide_eq_false_iff_not, Bool.not_eq_true', Bool.not_eq_false', Bool.and_eq_true, Bool.or_eq_true, Bool.or_eq_false_iff, gt_iff_lt, Int.not_lt, Bool.not_true, Bool.not_false, Int.ofNat_lt, Int.ofNat_le] at c8
          refine ev_region tabT [] 1000 rfl ?_
          repeat (first | refine sat_same ?_ | refine sat_imp (by first | exact fun hh => hh | (intro hh; simp at hh ⊢; first | omega | exact hh | simp_all) | (simp_all; done)) ?_ | refine sat_need (by first | exact trivial | omega | exact ini (by omega) (by omega) | (intro hh; simp at hh; exact ini (by omega) (by omega)) | (intro hh; simp at hh ⊢; omega) | (simp at *; omega) | (simp_all; done)) ?_)
          refine sat_done ?_
          refine exS_normal ?_
          refine ev_cond rfl (fun c9 => ?_) (fun c9 => ?_)
          · try simp only [decide_eq_true_eq, decide_eq_false_iff_not, Bool.not_eq_true', Bool.not_eq_false', Bool.and_eq_true, Bool.or_eq_true, Bool.or_eq_false_iff, gt_iff_lt, Int.not_lt, Bool.not_true, Bool.not_false, Int.ofNat_lt, Int.ofNat_le] at c9
            refine ev_seq (ev_region tabT [] 1100 rfl ?_)
            repeat (first | refine sat_same ?_ | refine sat_imp (by first | exact fun hh => hh | (intro hh; simp at hh ⊢; first | omega | exact hh | simp_all) | (simp_all; done)) ?_ | refine sat_need (by first | exact trivial | omega | exact ini (by omega) (by omega) | (intro hh; simp at hh; exact ini (by omega) (by omega)) | (intro hh; simp at hh ⊢; omega) | (simp at *; omega) | (simp_all; done)) ?_)
            refine sat_done ?_
            refine exS_normal ?_
            refine ev_ret ?_
            refine exBl_ret ?_
            refine exS_ret ?_
            exact FinV.ret rfl (SubP.int (by simp_all [greatS]))
          · try simp only [decide_eq_true_eq, decide_eq_false_iff_not, Bool.not_eq_true', Bool.not_eq_false', Bool.and_eq_true, Bool.or_eq_true, Bool.or_eq_false_iff, gt_iff_lt, Int.not_lt, Bool.not_true, Bool.not_false, Int.ofNat_lt, Int.ofNat_le] at c9
            refine ev_seq (ev_region tabT [] 1200 rfl ?_)
            repeat (first | refine sat_same ?_ | refine sat_imp (by first | exact fun hh => hh | (intro hh; simp at hh ⊢; first | omega | exact hh | simp_all) | (simp_all; done)) ?_ | refine sat_need (by first | exact trivial | omega | exact ini (by omega) (by omega) | (intro hh; simp at hh; exact ini (by omega) (by omega)) | (intro hh; simp at hh ⊢; omega) | (simp at *; omega) | (simp_all; done)) ?_)
            refine sat_done ?_
            refine exS_normal ?_
            refine ev_cond rfl (fun c11 => ?_) (fun c11 => ?_)
            · try simp only [decide_eq_true_eq, decide_eq_false_iff_not, Bool.not_eq_true', Bool.not_eq_false', Bool.and_eq_true, Bool.or_eq_true, Bool.or_eq_false_iff, gt_iff_lt, Int.not_lt, Bool.not_true, Bool.not_false, Int.ofNat_lt, Int.ofNat_le] at c11
              refine ev_seq (ev_region tabT [] 1300 rfl ?_)
              repeat (first | refine sat_same ?_ | refine sat_imp (by first | exact fun hh => hh | (intro hh; simp at hh ⊢; first | omega | exact hh | simp_all) | (simp_all; done)) ?_ | refine sat_need (by first | exact trivial | omega | exact ini (by omega) (by omega) | (intro hh; simp at hh; exact ini (by omega) (by omega)) | (intro hh; simp at hh ⊢; omega) | (simp at *; omega) | (simp_all; done)) ?_)
              refine sat_done ?_
              refine exS_normal ?_
              refine ev_ret ?_
              refine exBl_ret ?_
              refine exS_ret ?_
              exact FinV.ret rfl (SubP.int (by simp_all [greatS]))
            · try simp only [decide_eq_true_eq, decide_eq_false_iff_not, Bool.not_eq_true', Bool.not_eq_false', Bool.and_eq_true, Bool.or_eq_true, Bool.or_eq_false_iff, gt_iff_lt, Int.not_lt, Bool.not_true, Bool.not_false, Int.ofNat_lt, Int.ofNat_le] at c11
              refine ev_skip ?_
              refine exBl_normal ?_
              refine exS_normal ?_
              refine ev_seq (ev_region tabT [] 1400 rfl ?_)
              repeat (first | refine sat_same ?_ | refine sat_imp (by first | exact fun hh => hh | (intro hh; simp at hh ⊢; first | omega | exact hh | simp_all) | (simp_all; done)) ?_ | refine sat_need (by first | exact trivial | omega | exact ini (by omega) (by omega) | (intro hh; simp at hh; exact ini (by omega) (by omega)) | (intro hh; simp at hh ⊢; omega) | (simp at *; omega) | (simp_all; done)) ?_)
              refine sat_done ?_
              refine exS_normal ?_
              refine ev_ret ?_
              exact FinV.ret rfl (SubP.int (by simp_all [greatS]))

end Go.Proofs.YtfkaepjlmgolhaaGreatDoor
