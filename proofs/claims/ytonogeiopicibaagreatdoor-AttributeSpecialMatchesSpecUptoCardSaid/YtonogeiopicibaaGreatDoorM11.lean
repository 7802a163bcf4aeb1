/- Part 11 of the proof. -/
import Derived.Test.YtonogeiopicibaaGreatDoorM10
import Derived.Test.YtonogeiopicibaaGreatDoorProg
import Derived.Ground.NamesProg
import Derived.Shelf.Unicode.ValidAny
import Derived.Shelf.Strings.Split
import Derived.Shelf.Strings.Fields
import Derived.Shelf.Strings.Cut
import Derived.Shelf.Strings.Search3
import Derived.WalkKit
import Derived.WalkSpells
import Derived.WalkLawsBesides
import Derived.Lib.Hide
import Derived.Lib.SliceRun
import Derived.Laws.AppendOwnNone
import Derived.Test.YtonogeiopicibaaGreatDoorChecked
import Derived.BigQuiet
import Derived.Deep.LoopGhost
import Derived.OwnWalk
import Derived.Deep.DeepCutAuto
import Derived.Deep.CutBlock
import Derived.Deep.QuietTactic

/- Walks by the evaluator: sameness of values and objects; what links asks. -/
namespace Go.Proofs.YtonogeiopicibaaGreatDoor
open Go.RowKit
variable {md me : Bool}

def smI (b1 : Bool) (l1 : List Nat) (b2 : Bool) (l2 : List Nat) : Bool := (b1 == b2) && decide (l1 = l2)
theorem smI_iff {b1 b2 : Bool} {l1 l2 : List Nat} : smI b1 l1 b2 l2 = true ↔ b1 = b2 ∧ l1 = l2 := by simp [smI]
def smV (a b : Vl) : Bool := (((decide (a.k = b.k) && decide (a.r = b.r)) && decide (a.s = b.s)) && smI a.nn a.nl b.nn b.nl) && smI a.dn a.dl b.dn b.dl
theorem smV_iff {a b : Vl} : smV a b = true ↔ a = b := by
  cases a; cases b
  simp only [smV, Bool.and_eq_true, decide_eq_true_eq, smI_iff, Vl.mk.injEq]
  constructor
  · rintro ⟨⟨⟨⟨rfl, rfl⟩, rfl⟩, rfl, rfl⟩, rfl, rfl⟩; simp
  · rintro ⟨rfl, rfl, rfl, rfl, rfl, rfl, rfl⟩; simp
instance : DecidableEq Vl := fun _ _ => decidable_of_iff _ smV_iff
theorem smV_eq (a b : Vl) : smV a b = decide (a = b) := by
  rw [Bool.eq_iff_iff, decide_eq_true_eq]; exact smV_iff
def smO (a b : Ob) : Bool := ((((((((((decide (a.kind = b.kind) && decide (a.name = b.name)) && decide (a.cls = b.cls)) && decide (a.code = b.code)) && decide (a.state = b.state)) && decide (a.refs = b.refs)) && decide (a.order = b.order)) && decide (a.names = b.names)) && decide (a.items = b.items)) && decide (a.keys = b.keys)))
theorem smO_iff {a b : Ob} : smO a b = true ↔ a = b := by
  cases a; cases b
  simp only [smO, Bool.and_eq_true, decide_eq_true_eq, Ob.mk.injEq]
  constructor
  · rintro ⟨⟨⟨⟨⟨⟨⟨⟨⟨rfl, rfl⟩, rfl⟩, rfl⟩, rfl⟩, rfl⟩, rfl⟩, rfl⟩, rfl⟩, rfl⟩; simp
  · rintro ⟨rfl, rfl, rfl, rfl, rfl, rfl, rfl, rfl, rfl, rfl⟩; simp
instance : DecidableEq Ob := fun _ _ => decidable_of_iff _ smO_iff
theorem smO_eq (a b : Ob) : smO a b = decide (a = b) := by
  rw [Bool.eq_iff_iff, decide_eq_true_eq]; exact smO_iff
/-- All so far. -/
structure Al {α : Type} (l : List α) (p : α → Bool) where
  k : Nat
  le : k ≤ l.length
  all : ∀ j x, j < k → l[j]? = some x → p x = true
def Al.next {α : Type} {l : List α} {p : α → Bool} {e : α} (x : Al l p) (h1 : x.k < l.length) (h2 : p (l.getD (x.k : Int).toNat e) = true) : Al l p := ⟨x.k + 1, by omega, fun j y hj hy => by
  rcases Nat.lt_succ_iff_lt_or_eq.1 hj with h | rfl
  · exact x.all j y h hy
  · rw [getD_q h1 e] at hy; cases hy; exact h2⟩
theorem Al.yes {α : Type} {l : List α} {p : α → Bool} (x : Al l p) (h1 : ¬ x.k < l.length) : l.all p = true := by
  rw [List.all_eq_true]
  intro y hy
  obtain ⟨j, hj, e⟩ := List.mem_iff_getElem.1 hy
  exact x.all j y (by omega) (by rw [List.getElem?_eq_getElem hj, e])
theorem Al.no {α : Type} {l : List α} {p : α → Bool} {k : Nat} {e : α} (h1 : k < l.length) (h2 : p (l.getD (k : Int).toNat e) = false) : l.all p = false := by
  rw [← Bool.not_eq_true, List.all_eq_true]
  intro h
  have := h (l.getD (k : Int).toNat e) (by rw [getD_l h1]; exact List.getElem_mem _)
  rw [h2] at this; cases this
/-- The number is a place in the heap. -/
def inH (h : List Ob) (n : Int) : Prop := 0 ≤ n ∧ n.toNat < h.length
theorem isObj_in {h : List Ob} {n : Int} (hi : isObj h n = true) : inH h n := isObj_lt hi
/-- The object with a number. -/
abbrev obAt (h : List Ob) (n : Int) : Ob := h.getD n.toNat ob0
def callS (h : List Ob) (v : Vl) : Bool := decide (v.k = 7) || decide ((objS h v).kind = 7)
def excS (h : List Ob) (v : Vl) : Bool := (decide ((objS h v).kind = 10) && isObj h (objS h v).cls) && hasB (obAt h (objS h v).cls).order 28
def isaS (h : List Ob) (v : Vl) (c : Int) : Bool := decide ((objS h v).kind = 10) && hasB (obAt h (objS h v).cls).order c
def rngP (v : Vl) : Bool := decide (v.k = 2) && decide (v.nl.length ≤ 40)
def rngS (o : Ob) : Bool := o.items.all rngP && decide (0 < (o.items.getD 2 vl0).nl.length)
def greatS (k : Int) : Int := if k = 7 then 1 else if k = 17 then 3 else if k = 19 then 3 else if k = 16 ∨ k = 9 then 1099511627776 else if k = 18 then 5000 else 0

theorem SameInt_ok (b1 b2 : Bool) (l1 l2 : List Nat) : Fn Tryz.prog 28 [.agg [.v (.bool b1), usD l1], .agg [.v (.bool b2), usD l2]] (.v (.bool (smI b1 l1 b2 l2))) := by
  refine fn_ev tabT Tryz.func28 rfl rfl rfl rfl rfl rfl ?_
  intro w0 s0 mx
  refine ev_R tabT [] 100 ?_
  refine ev_seq (ev_region tabT [] 200 rfl ?_)
  repeat (first | refine sat_same ?_ | refine sat_impA ?_ | refine sat_needA ?_)
  refine sat_fnG _ (fun hg10 => EqualU_ok _ _) rfl ?_
  repeat (first | refine sat_same ?_ | refine sat_impA ?_ | refine sat_needA ?_)
  refine sat_done ?_
  refine exS_normal ?_
  refine ev_ret ?_
  exact FinV.ret rfl (SubP.refl _)

theorem SameValue_ok (a b : Vl) : Fn Tryz.prog 8 [.agg (vlD a), .agg (vlD b)] (.v (.bool (decide (a = b)))) := by
  refine fn_ev tabT Tryz.func8 rfl rfl rfl rfl rfl rfl ?_
  intro w0 s0 mx
  refine ev_R tabT [] 100 ?_
  refine ev_seq (ev_region tabT [] 200 rfl ?_)
  repeat (first | refine sat_same ?_ | refine sat_impA ?_ | refine sat_needA ?_)
  refine sat_fnG _ (fun hg24 => SameInt_ok _ _ _ _) rfl ?_
  repeat (first | refine sat_same ?_ | refine sat_impA ?_ | refine sat_needA ?_)
  refine sat_fnG _ (fun hg31 => SameInt_ok _ _ _ _) rfl ?_
  repeat (first | refine sat_same ?_ | refine sat_impA ?_ | refine sat_needA ?_)
  refine sat_done ?_
  refine exS_normal ?_
  refine ev_ret ?_
  exact FinV.ret rfl (SubP.bool (smV_eq a b))

theorem SameValues_ok (l m : List Vl) : Fn Tryz.prog 9 [vsD l, vsD m] (.v (.bool (decide (l = m)))) := by
  refine fn_ev tabT Tryz.func9 rfl rfl rfl rfl rfl rfl ?_
  intro w0 s0 mx
  refine ev_len 0 rfl fun hl0 => ?_
  refine ev_R tabT [] 100 ?_
  refine ev_seq ?_
  refine ev_R tabT [] 200 ?_
  refine ev_cond rfl (fun c1 => ?_) (fun c1 => ?_)
  · simp at c1
    refine ev_R tabT [] 300 ?_
    refine ev_ret ?_
    refine exS_ret ?_
    exact FinV.ret rfl (SubP.bool (by simp; rintro rfl; exact c1 rfl))
  · simp at c1
    have c1 := Int.ofNat_inj.1 c1
    refine ev_skip ?_
    refine exS_normal ?_
    refine ev_seq ?_
    refine ev_R tabT [] 400 ?_
    refine ev_block ?_
    refine ev_loopK (ι := Eq2 l m) [0, 1, 12] [] 450 (fun x => [(13, .v (.int .i64 x.k))]) (fun _ => []) (fun x => l.length - x.k) ⟨0, Nat.zero_le _, rfl⟩ ?_
    refine ⟨⟨le_t, le_o, rfl, rfl⟩, fun x => ?_⟩
    have hk := x.le
    refine ev_R tabT [] 500 ?_
    refine ev_seq ?_
    refine ev_if (fun c4 => ?_) (fun c4 => ?_)
    · 
      refine ev_skip ?_
      refine exS_normal ?_
      refine ev_seq ?_
      refine ev_block ?_
      refine ev_R tabT [] 600 ?_
      refine ev_seq (ev_drawn tabT [] [[], [], [0, 1], [0, 1, 2], [], [], [4, 5], [4, 5, 6], [0, 1, 2, 3, 4, 5, 6, 7], [0, 1, 2, 3, 4, 5, 6, 7, 8]] 700 mixT (by kernel_rfl) rfl ?_)
      repeat (first | refine sat_same ?_ | refine sat_impA ?_ | refine sat_needA ?_)
      refine sat_fn _ (SameValue_ok _ _) rfl ?_
      repeat (first | refine sat_same ?_ | refine sat_impA ?_ | refine sat_needA ?_)
      refine sat_done ?_
      refine exS_normal ?_
      refine ev_cond rfl (fun c6 => ?_) (fun c6 => ?_)
      · simp only [Bool.not_eq_true', decide_eq_false_iff_not] at c6
        refine ev_R tabT [] 800 ?_
        refine ev_ret ?_
        refine exBl_ret ?_
        refine exS_ret ?_
        refine exL_ret ?_
        refine exBl_ret ?_
        refine exS_ret ?_
        exact FinV.ret rfl (SubP.bool (by simpa using ne_at c6))
      · simp only [Bool.not_eq_false', decide_eq_true_eq] at c6
        refine ev_skip ?_
        refine exBl_normal ?_
        refine exS_normal ?_
        refine ev_Q tabT [] 900 ?_
        exact exL_normal (x.next c1 c4 c6) ⟨le_t, le_o, rfl, rfl⟩ (by show l.length - (x.k + 1) < l.length - x.k; omega)
    · 
      refine ev_exit ?_
      refine exS_exit ?_
      refine exL_exit ?_
      refine exBl_same ?_
      refine exS_normal ?_
      refine ev_R tabT [] 1000 ?_
      refine ev_ret ?_
      exact FinV.ret rfl (SubP.bool (by simpa using x.all c1 c4))

theorem SameObject_ok (a b : Ob) : Fn Tryz.prog 42 [.agg (obD a), .agg (obD b)] (.v (.bool (decide (a = b)))) := by
  refine fn_ev tabT Tryz.func42 rfl rfl rfl rfl rfl rfl ?_
  intro w0 s0 mx
  refine ev_R tabT [] 100 ?_
  refine ev_seq (ev_region tabT [] 200 rfl ?_)
  repeat (first | refine sat_same ?_ | refine sat_impA ?_ | refine sat_needA ?_)
  refine sat_fnG _ (fun hg38 => Ints_ok _ _) rfl ?_
  repeat (first | refine sat_same ?_ | refine sat_impA ?_ | refine sat_needA ?_)
  refine sat_fnG _ (fun hg45 => Ints_ok _ _) rfl ?_
  repeat (first | refine sat_same ?_ | refine sat_impA ?_ | refine sat_needA ?_)
  refine sat_fnG _ (fun hg52 => Strings_ok _ _) rfl ?_
  repeat (first | refine sat_same ?_ | refine sat_impA ?_ | refine sat_needA ?_)
  refine sat_fnG _ (fun hg59 => SameValues_ok _ _) rfl ?_
  repeat (first | refine sat_same ?_ | refine sat_impA ?_ | refine sat_needA ?_)
  refine sat_fnG _ (fun hg66 => SameValues_ok _ _) rfl ?_
  repeat (first | refine sat_same ?_ | refine sat_impA ?_ | refine sat_needA ?_)
  refine sat_done ?_
  refine exS_normal ?_
  refine ev_ret ?_
  exact FinV.ret rfl (SubP.bool (smO_eq a b))

theorem callable_ok (h : List Ob) (v : Vl) : Fn Tryz.prog 26 [hpD md h, .agg (vlD v)] (.v (.bool (callS h v))) := by
  refine fn_ev tabT Tryz.func26 rfl rfl rfl rfl rfl rfl ?_
  intro w0 s0 mx
  refine ev_R tabT [] 100 ?_
  refine ev_seq (ev_region tabT [] 200 rfl ?_)
  repeat (first | refine sat_same ?_ | refine sat_impA ?_ | refine sat_needA ?_)
  refine sat_fnG _ (fun hg6 => Obj_ok _ _) rfl ?_
  repeat (first | refine sat_same ?_ | refine sat_impA ?_ | refine sat_needA ?_)
  refine sat_done ?_
  refine exS_normal ?_
  refine ev_ret ?_
  exact FinV.ret rfl (SubP.refl _)

theorem isClass_ok (h : List Ob) (n : Int) (hn : inH h n) : Fn Tryz.prog 70 [hpD md h, .v (.int .i64 n)] (.v (.bool (decide ((obAt h n).kind = 9)))) := by
  refine fn_ev tabT Tryz.func70 rfl rfl rfl rfl rfl rfl ?_
  intro w0 s0 mx
  refine ev_seq (ev_region tabT [] 100 rfl ?_)
  repeat (first | refine sat_same ?_ | refine sat_impA ?_ | refine sat_need (by exact hn) ?_)
  refine sat_done ?_
  refine exS_normal ?_
  refine ev_seq (ev_region tabT [] 200 rfl ?_)
  repeat (first | refine sat_same ?_ | refine sat_impA ?_ | refine sat_need (by exact hn) ?_)
  refine sat_done ?_
  refine exS_normal ?_
  refine ev_ret ?_
  exact FinV.ret rfl (SubP.refl _)

theorem Exception_ok (h : List Ob) (v : Vl) : Fn Tryz.prog 98 [hpD md h, .agg (vlD v)] (.v (.bool (excS h v))) := by
  refine fn_ev tabT Tryz.func98 rfl rfl rfl rfl rfl rfl ?_
  intro w0 s0 mx
  refine ev_R tabT [] 100 ?_
  refine ev_seq (ev_region tabT [] 200 rfl ?_)
  repeat (first | refine sat_same ?_ | refine sat_impA ?_ | refine sat_needA ?_)
  refine sat_fn _ (Obj_ok _ _) rfl ?_
  repeat (first | refine sat_same ?_ | refine sat_impA ?_ | refine sat_needA ?_)
  refine sat_done ?_
  refine exS_normal ?_
  refine ev_seq (ev_region tabT [] 300 rfl ?_)
  repeat (first | refine sat_same ?_ | refine sat_impA ?_ | refine sat_need (by intro hh; simp at hh; exact isObj_in hh.2) ?_)
  refine sat_fnG _ (fun hg7 => IsObject_ok _ _) rfl ?_
  repeat (first | refine sat_same ?_ | refine sat_impA ?_ | refine sat_need (by intro hh; simp at hh; exact isObj_in hh.2) ?_)
  refine sat_fnG _ (fun hg17 => ContainsI_ok _ _) rfl ?_
  repeat (first | refine sat_same ?_ | refine sat_impA ?_ | refine sat_need (by intro hh; simp at hh; exact isObj_in hh.2) ?_)
  refine sat_done ?_
  refine exS_normal ?_
  refine ev_ret ?_
  exact FinV.ret rfl (SubP.refl _)

theorem RangeOk_ok (o : Ob) (ho : 2 < o.items.length) (hl : o.items.length ≤ 2000000) : Fn Tryz.prog 69 [.agg (obD o)] (.v (.bool (rngS o))) := by
  refine fn_ev tabT Tryz.func69 rfl rfl rfl rfl rfl rfl ?_
  intro w0 s0 mx
  refine ev_R tabT [] 100 ?_
  refine ev_seq ?_
  refine ev_R tabT [] 200 ?_
  refine ev_block ?_
  refine ev_loopK (ι := Al o.items rngP) [1, 6, 7] [0] 250 (fun x => [(8, .v (.int .i64 x.k))]) (fun _ => []) (fun x => o.items.length - x.k) ⟨0, Nat.zero_le _, fun j x hj => by omega⟩ ?_
  refine ⟨⟨le_t, le_o, rfl, rfl⟩, fun x => ?_⟩
  have hk := x.le
  refine ev_R tabT [] 300 ?_
  refine ev_seq ?_
  refine ev_if (fun c2 => ?_) (fun c2 => ?_)
  · 
    refine ev_skip ?_
    refine exS_normal ?_
    refine ev_seq ?_
    refine ev_block ?_
    refine ev_R tabT [] 400 ?_
    refine ev_R tabT [] 500 ?_
    refine ev_if (fun c4 => ?_) (fun c4 => ?_)
    · 
      refine ev_R tabT [] 600 ?_
      refine ev_ret ?_
      refine exBl_ret ?_
      refine exS_ret ?_
      refine exL_ret ?_
      refine exBl_ret ?_
      refine exS_ret ?_
      exact FinV.ret rfl (SubP.bool (by rw [rngS, Al.no (e := vl0) c2 (by
          rw [← Bool.not_eq_true]
          simp only [rngP, Bool.and_eq_true, decide_eq_true_eq]
          rcases c4 with c4 | c4
          · exact fun h => c4 h.1
          · exact fun h => by have := h.2; omega)]; rfl))
    · 
      refine ev_skip ?_
      refine exBl_normal ?_
      refine exS_normal ?_
      refine ev_Q tabT [] 700 ?_
      exact exL_normal (x.next (e := vl0) c2 (by rw [rngP, decide_eq_true c4.1, decide_eq_true (by omega)]; rfl)) ⟨le_t, le_o, rfl, rfl⟩ (by show o.items.length - (x.k + 1) < o.items.length - x.k; omega)
  · 
    refine ev_exit ?_
    refine exS_exit ?_
    refine exL_exit ?_
    refine exBl_same ?_
    refine exS_normal ?_
    refine ev_seq (ev_region tabT [] 800 rfl ?_)
    repeat (first | refine sat_same ?_ | refine sat_impA ?_ | refine sat_need (by exact ⟨by decide, ho⟩) ?_)
    refine sat_done ?_
    refine exS_normal ?_
    refine ev_ret ?_
    exact FinV.ret rfl (SubP.bool (by rw [rngS, x.yes c2]; simp))

theorem greatest_ok (k : Int) : Fn Tryz.prog 66 [.v (.int .i64 k)] (.v (.int .i64 (greatS k))) := by
  refine fn_ev tabT Tryz.func66 rfl rfl rfl rfl rfl rfl ?_
  intro w0 s0 mx
  refine ev_R tabT [] 100 ?_
  refine ev_seq ?_
  refine ev_R tabT [] 200 ?_
  refine ev_block ?_
  refine ev_R tabT [] 300 ?_
  refine ev_if (fun c2 => ?_) (fun c2 => ?_)
  · 
    refine ev_R tabT [] 400 ?_
    refine ev_ret ?_
    refine exBl_ret ?_
    refine exS_ret ?_
    exact FinV.ret rfl (SubP.int (by simp_all [greatS]))
  · 
    refine ev_R tabT [] 500 ?_
    refine ev_if (fun c4 => ?_) (fun c4 => ?_)
    · 
      refine ev_R tabT [] 600 ?_
      refine ev_ret ?_
      refine exBl_ret ?_
      refine exS_ret ?_
      exact FinV.ret rfl (SubP.int (by simp_all [greatS]))
    · 
      refine ev_R tabT [] 700 ?_
      refine ev_if (fun c6 => ?_) (fun c6 => ?_)
      · 
        refine ev_R tabT [] 800 ?_
        refine ev_ret ?_
        refine exBl_ret ?_
        refine exS_ret ?_
        exact FinV.ret rfl (SubP.int (by simp_all [greatS]))
      · 
        refine ev_seq ?_
        refine ev_R tabT [] 900 ?_
        refine ev_if (fun c8 => ?_) (fun c8 => ?_)
        · 
          refine ev_skip ?_
          refine exS_normal ?_
          refine ev_if (fun c8x => ?_) (fun c8x => ?_)
          · 
            refine ev_R tabT [] 1100 ?_
            refine ev_ret ?_
            refine exBl_ret ?_
            refine exS_ret ?_
            exact FinV.ret rfl (SubP.int (by simp_all [greatS]))
          · 
            simp_all
        · 
          refine ev_Q tabT [] 1000 ?_
          refine exS_normal ?_
          refine ev_if (fun c9 => ?_) (fun c9 => ?_)
          · 
            refine ev_R tabT [] 1100 ?_
            refine ev_ret ?_
            refine exBl_ret ?_
            refine exS_ret ?_
            exact FinV.ret rfl (SubP.int (by simp_all [greatS]))
          · 
            refine ev_R tabT [] 1200 ?_
            refine ev_if (fun c11 => ?_) (fun c11 => ?_)
            · 
              refine ev_R tabT [] 1300 ?_
              refine ev_ret ?_
              refine exBl_ret ?_
              refine exS_ret ?_
              exact FinV.ret rfl (SubP.int (by simp_all [greatS]))
            · 
              refine ev_skip ?_
              refine exBl_normal ?_
              refine exS_normal ?_
              refine ev_R tabT [] 1400 ?_
              refine ev_ret ?_
              exact FinV.ret rfl (SubP.int (by simp_all [greatS]))

end Go.Proofs.YtonogeiopicibaaGreatDoor

/-
  DERIVED: THE SHELF's CONTRACTS AT THIS DUMP, IN PLAIN WORDS (tools/lay-plain.mjs out of 'YtonogeiopicibaaGreatDoorShelf.lean', which tools/lay-shelf.mjs wrote): THE SAME DECLARATIONS UNDER THE SAME NAMES: 'import', 'namespace', 'open', 'def', 'theorem' AND NOTHING ELSE: no command of the shelf's: FOR A HAND-IN. Each laying: the table of numbers ('.._ren') and one theorem, a field a fact of the dump's own or the kernel's comparison; each contract: ONE APPLICATION.
-/
namespace Go.Proofs
open Go.Shelf
def Tryz.laysValid_ren : Go.Shelf.Ren := ⟨fun | 196 => 79 | 259 => 107 | n => n, fun | 9 => 9 | 4 => 4 | 3 => 3 | 5 => 5 | 12 => 12 | 119 => 78 | 0 => 0 | 46 => 76 | 139 => 134 | 138 => 133 | 53 => 111 | n => n, fun | 3 => 2 | 4 => 3 | n => n⟩
theorem Tryz.laysValid : Go.Proofs.Lays.n196 Tryz.prog Tryz.laysValid_ren := {
  mixed := by kernel_rfl
  f196 := Tryz.func79.trans (congrArg some (by kernel_rfl))
  f259 := Tryz.func107.trans (congrArg some (by kernel_rfl))
  t0 := Tryz.underlying0
  a0 := Tryz.isAgg0
  z0 := Tryz.sizeOf0
  v0 := Tryz.zeroValue0
  t3 := Tryz.underlying3
  a3 := Tryz.isAgg3
  z3 := Tryz.sizeOf3
  v3 := Tryz.zeroValue3
  t4 := Tryz.underlying4
  a4 := Tryz.isAgg4
  z4 := Tryz.sizeOf4
  v4 := Tryz.zeroValue4
  t5 := Tryz.underlying5
  a5 := Tryz.isAgg5
  z5 := Tryz.sizeOf5
  v5 := Tryz.zeroValue5
  t9 := Tryz.underlying9
  a9 := Tryz.isAgg9
  z9 := Tryz.sizeOf9
  v9 := Tryz.zeroValue9
  t12 := Tryz.underlying12
  a12 := Tryz.isAgg12
  z12 := Tryz.sizeOf12
  v12 := Tryz.zeroValue12
  t46 := Tryz.underlying76
  a46 := Tryz.isAgg76
  z46 := Tryz.sizeOf76
  v46 := Tryz.zeroValue76
  t53 := Tryz.underlying111
  a53 := Tryz.isAgg111
  z53 := Tryz.sizeOf111
  v53 := Tryz.zeroValue111
  t119 := Tryz.underlying78
  a119 := Tryz.isAgg78
  z119 := Tryz.sizeOf78
  t138 := Tryz.underlying133
  a138 := Tryz.isAgg133
  z138 := Tryz.sizeOf133
  v138 := Tryz.zeroValue133
  t139 := Tryz.underlying134
  a139 := Tryz.isAgg134
  z139 := Tryz.sizeOf134
  v139 := Tryz.zeroValue134
  g3 := by kernel_rfl
  g4 := by kernel_rfl }
def Tryz.laysSplit_ren : Go.Shelf.Ren := ⟨fun | 146 => 94 | 221 => 117 | 268 => 130 | 138 => 131 | 143 => 95 | 195 => 134 | 197 => 135 | 218 => 136 | 219 => 116 | 260 => 137 | 217 => 126 | 225 => 127 | 224 => 128 | 267 => 129 | 266 => 132 | 314 => 133 | n => n, fun | 9 => 9 | 31 => 38 | 3 => 3 | 4 => 4 | 0 => 0 | 105 => 168 | 21 => 21 | 5 => 5 | 46 => 76 | 119 => 78 | 139 => 134 | 138 => 133 | 146 => 165 | 51 => 72 | n => n, fun | 1 => 4 | 3 => 2 | 4 => 3 | n => n⟩
theorem Tryz.laysSplit : Go.Proofs.Lays.n146 Tryz.prog Tryz.laysSplit_ren := {
  mixed := by kernel_rfl
  f138 := Tryz.func131.trans (congrArg some (by kernel_rfl))
  f143 := Tryz.func95.trans (congrArg some (by kernel_rfl))
  f146 := Tryz.func94.trans (congrArg some (by kernel_rfl))
  f195 := Tryz.func134.trans (congrArg some (by kernel_rfl))
  f197 := Tryz.func135.trans (congrArg some (by kernel_rfl))
  f217 := Tryz.func126.trans (congrArg some (by kernel_rfl))
  f218 := Tryz.func136.trans (congrArg some (by kernel_rfl))
  f219 := Tryz.func116.trans (congrArg some (by kernel_rfl))
  f221 := Tryz.func117.trans (congrArg some (by kernel_rfl))
  f224 := Tryz.func128.trans (congrArg some (by kernel_rfl))
  f225 := Tryz.func127.trans (congrArg some (by kernel_rfl))
  f260 := Tryz.func137.trans (congrArg some (by kernel_rfl))
  f266 := Tryz.func132.trans (congrArg some (by kernel_rfl))
  f267 := Tryz.func129.trans (congrArg some (by kernel_rfl))
  f268 := Tryz.func130.trans (congrArg some (by kernel_rfl))
  f314 := Tryz.func133.trans (congrArg some (by kernel_rfl))
  t0 := Tryz.underlying0
  a0 := Tryz.isAgg0
  z0 := Tryz.sizeOf0
  v0 := Tryz.zeroValue0
  t3 := Tryz.underlying3
  a3 := Tryz.isAgg3
  z3 := Tryz.sizeOf3
  v3 := Tryz.zeroValue3
  t4 := Tryz.underlying4
  a4 := Tryz.isAgg4
  z4 := Tryz.sizeOf4
  v4 := Tryz.zeroValue4
  t5 := Tryz.underlying5
  a5 := Tryz.isAgg5
  z5 := Tryz.sizeOf5
  v5 := Tryz.zeroValue5
  t9 := Tryz.underlying9
  a9 := Tryz.isAgg9
  z9 := Tryz.sizeOf9
  v9 := Tryz.zeroValue9
  t21 := Tryz.underlying21
  a21 := Tryz.isAgg21
  z21 := Tryz.sizeOf21
  v21 := Tryz.zeroValue21
  t31 := Tryz.underlying38
  a31 := Tryz.isAgg38
  z31 := Tryz.sizeOf38
  v31 := Tryz.zeroValue38
  t46 := Tryz.underlying76
  a46 := Tryz.isAgg76
  z46 := Tryz.sizeOf76
  v46 := Tryz.zeroValue76
  t51 := Tryz.underlying72
  a51 := Tryz.isAgg72
  z51 := Tryz.sizeOf72
  v51 := Tryz.zeroValue72
  t105 := Tryz.underlying168
  a105 := Tryz.isAgg168
  z105 := Tryz.sizeOf168
  v105 := Tryz.zeroValue168
  t119 := Tryz.underlying78
  a119 := Tryz.isAgg78
  z119 := Tryz.sizeOf78
  t138 := Tryz.underlying133
  a138 := Tryz.isAgg133
  z138 := Tryz.sizeOf133
  v138 := Tryz.zeroValue133
  t139 := Tryz.underlying134
  a139 := Tryz.isAgg134
  z139 := Tryz.sizeOf134
  v139 := Tryz.zeroValue134
  t146 := Tryz.underlying165
  a146 := Tryz.isAgg165
  z146 := Tryz.sizeOf165
  v146 := Tryz.zeroValue165
  g1 := by kernel_rfl
  g3 := by kernel_rfl
  g4 := by kernel_rfl }
def Tryz.laysFields_ren : Go.Shelf.Ren := ⟨fun | 157 => 37 | 229 => 58 | 199 => 59 | 261 => 91 | 311 => 114 | 312 => 115 | n => n, fun | 9 => 9 | 31 => 38 | 3 => 3 | 5 => 5 | 4 => 4 | 119 => 78 | 0 => 0 | 40 => 80 | 152 => 112 | 21 => 21 | 154 => 114 | 51 => 72 | 141 => 116 | 196 => 144 | 193 => 141 | 198 => 147 | 49 => 145 | 194 => 142 | 201 => 150 | 226 => 161 | 46 => 76 | 227 => 162 | n => n, fun | 0 => 0 | 6 => 1 | n => n⟩
theorem Tryz.laysFields : Go.Proofs.Lays.n157 Tryz.prog Tryz.laysFields_ren := {
  mixed := by kernel_rfl
  f157 := Tryz.func37.trans (congrArg some (by kernel_rfl))
  f199 := Tryz.func59.trans (congrArg some (by kernel_rfl))
  f229 := Tryz.func58.trans (congrArg some (by kernel_rfl))
  f261 := Tryz.func91.trans (congrArg some (by kernel_rfl))
  f311 := Tryz.func114.trans (congrArg some (by kernel_rfl))
  f312 := Tryz.func115.trans (congrArg some (by kernel_rfl))
  t0 := Tryz.underlying0
  a0 := Tryz.isAgg0
  z0 := Tryz.sizeOf0
  v0 := Tryz.zeroValue0
  t3 := Tryz.underlying3
  a3 := Tryz.isAgg3
  z3 := Tryz.sizeOf3
  v3 := Tryz.zeroValue3
  t4 := Tryz.underlying4
  a4 := Tryz.isAgg4
  z4 := Tryz.sizeOf4
  v4 := Tryz.zeroValue4
  t5 := Tryz.underlying5
  a5 := Tryz.isAgg5
  z5 := Tryz.sizeOf5
  v5 := Tryz.zeroValue5
  t9 := Tryz.underlying9
  a9 := Tryz.isAgg9
  z9 := Tryz.sizeOf9
  v9 := Tryz.zeroValue9
  t21 := Tryz.underlying21
  a21 := Tryz.isAgg21
  z21 := Tryz.sizeOf21
  v21 := Tryz.zeroValue21
  t31 := Tryz.underlying38
  a31 := Tryz.isAgg38
  z31 := Tryz.sizeOf38
  v31 := Tryz.zeroValue38
  t40 := Tryz.underlying80
  a40 := Tryz.isAgg80
  z40 := Tryz.sizeOf80
  v40 := Tryz.zeroValue80
  t46 := Tryz.underlying76
  a46 := Tryz.isAgg76
  z46 := Tryz.sizeOf76
  v46 := Tryz.zeroValue76
  t49 := Tryz.underlying145
  a49 := Tryz.isAgg145
  z49 := Tryz.sizeOf145
  v49 := Tryz.zeroValue145
  t51 := Tryz.underlying72
  a51 := Tryz.isAgg72
  z51 := Tryz.sizeOf72
  v51 := Tryz.zeroValue72
  t119 := Tryz.underlying78
  a119 := Tryz.isAgg78
  z119 := Tryz.sizeOf78
  t141 := Tryz.underlying116
  a141 := Tryz.isAgg116
  z141 := Tryz.sizeOf116
  v141 := Tryz.zeroValue116
  t152 := Tryz.underlying112
  a152 := Tryz.isAgg112
  z152 := Tryz.sizeOf112
  v152 := Tryz.zeroValue112
  t154 := Tryz.underlying114
  a154 := Tryz.isAgg114
  z154 := Tryz.sizeOf114
  v154 := Tryz.zeroValue114
  t193 := Tryz.underlying141
  a193 := Tryz.isAgg141
  z193 := Tryz.sizeOf141
  v193 := Tryz.zeroValue141
  t194 := Tryz.underlying142
  a194 := Tryz.isAgg142
  z194 := Tryz.sizeOf142
  v194 := Tryz.zeroValue142
  t196 := Tryz.underlying144
  a196 := Tryz.isAgg144
  z196 := Tryz.sizeOf144
  v196 := Tryz.zeroValue144
  t198 := Tryz.underlying147
  a198 := Tryz.isAgg147
  z198 := Tryz.sizeOf147
  v198 := Tryz.zeroValue147
  t201 := Tryz.underlying150
  a201 := Tryz.isAgg150
  z201 := Tryz.sizeOf150
  v201 := Tryz.zeroValue150
  t226 := Tryz.underlying161
  a226 := Tryz.isAgg161
  z226 := Tryz.sizeOf161
  v226 := Tryz.zeroValue161
  t227 := Tryz.underlying162
  a227 := Tryz.isAgg162
  z227 := Tryz.sizeOf162
  v227 := Tryz.zeroValue162
  g0 := by kernel_rfl
  g6 := by kernel_rfl }
def Tryz.laysCut_ren : Go.Shelf.Ren := ⟨fun | 145 => 61 | 220 => 92 | 219 => 116 | 217 => 126 | 225 => 127 | 224 => 128 | 267 => 129 | 266 => 132 | 314 => 133 | n => n, fun | 9 => 9 | 4 => 4 | 59 => 81 | 3 => 3 | 5 => 5 | 46 => 76 | 146 => 165 | 51 => 72 | n => n, fun | 1 => 4 | n => n⟩
theorem Tryz.laysCut : Go.Proofs.Lays.n145 Tryz.prog Tryz.laysCut_ren := {
  mixed := by kernel_rfl
  f145 := Tryz.func61.trans (congrArg some (by kernel_rfl))
  f217 := Tryz.func126.trans (congrArg some (by kernel_rfl))
  f219 := Tryz.func116.trans (congrArg some (by kernel_rfl))
  f220 := Tryz.func92.trans (congrArg some (by kernel_rfl))
  f224 := Tryz.func128.trans (congrArg some (by kernel_rfl))
  f225 := Tryz.func127.trans (congrArg some (by kernel_rfl))
  f266 := Tryz.func132.trans (congrArg some (by kernel_rfl))
  f267 := Tryz.func129.trans (congrArg some (by kernel_rfl))
  f314 := Tryz.func133.trans (congrArg some (by kernel_rfl))
  t3 := Tryz.underlying3
  a3 := Tryz.isAgg3
  z3 := Tryz.sizeOf3
  v3 := Tryz.zeroValue3
  t4 := Tryz.underlying4
  a4 := Tryz.isAgg4
  z4 := Tryz.sizeOf4
  v4 := Tryz.zeroValue4
  t5 := Tryz.underlying5
  a5 := Tryz.isAgg5
  z5 := Tryz.sizeOf5
  v5 := Tryz.zeroValue5
  t9 := Tryz.underlying9
  a9 := Tryz.isAgg9
  z9 := Tryz.sizeOf9
  v9 := Tryz.zeroValue9
  t46 := Tryz.underlying76
  a46 := Tryz.isAgg76
  z46 := Tryz.sizeOf76
  v46 := Tryz.zeroValue76
  t51 := Tryz.underlying72
  a51 := Tryz.isAgg72
  z51 := Tryz.sizeOf72
  v51 := Tryz.zeroValue72
  t59 := Tryz.underlying81
  a59 := Tryz.isAgg81
  z59 := Tryz.sizeOf81
  v59 := Tryz.zeroValue81
  t146 := Tryz.underlying165
  a146 := Tryz.isAgg165
  z146 := Tryz.sizeOf165
  v146 := Tryz.zeroValue165
  g1 := by kernel_rfl }
def Tryz.laysContains_ren : Go.Shelf.Ren := ⟨fun | 144 => 65 | 143 => 95 | 219 => 116 | 217 => 126 | 225 => 127 | 224 => 128 | 267 => 129 | 266 => 132 | 314 => 133 | n => n, fun | 9 => 9 | 4 => 4 | 3 => 3 | 5 => 5 | 46 => 76 | 146 => 165 | 51 => 72 | n => n, fun | 1 => 4 | n => n⟩
theorem Tryz.laysContains : Go.Proofs.Lays.n144 Tryz.prog Tryz.laysContains_ren := {
  mixed := by kernel_rfl
  f143 := Tryz.func95.trans (congrArg some (by kernel_rfl))
  f144 := Tryz.func65.trans (congrArg some (by kernel_rfl))
  f217 := Tryz.func126.trans (congrArg some (by kernel_rfl))
  f219 := Tryz.func116.trans (congrArg some (by kernel_rfl))
  f224 := Tryz.func128.trans (congrArg some (by kernel_rfl))
  f225 := Tryz.func127.trans (congrArg some (by kernel_rfl))
  f266 := Tryz.func132.trans (congrArg some (by kernel_rfl))
  f267 := Tryz.func129.trans (congrArg some (by kernel_rfl))
  f314 := Tryz.func133.trans (congrArg some (by kernel_rfl))
  t3 := Tryz.underlying3
  a3 := Tryz.isAgg3
  z3 := Tryz.sizeOf3
  v3 := Tryz.zeroValue3
  t4 := Tryz.underlying4
  a4 := Tryz.isAgg4
  z4 := Tryz.sizeOf4
  v4 := Tryz.zeroValue4
  t5 := Tryz.underlying5
  a5 := Tryz.isAgg5
  z5 := Tryz.sizeOf5
  v5 := Tryz.zeroValue5
  t9 := Tryz.underlying9
  a9 := Tryz.isAgg9
  z9 := Tryz.sizeOf9
  v9 := Tryz.zeroValue9
  t46 := Tryz.underlying76
  a46 := Tryz.isAgg76
  z46 := Tryz.sizeOf76
  v46 := Tryz.zeroValue76
  t51 := Tryz.underlying72
  a51 := Tryz.isAgg72
  z51 := Tryz.sizeOf72
  v51 := Tryz.zeroValue72
  t146 := Tryz.underlying165
  a146 := Tryz.isAgg165
  z146 := Tryz.sizeOf165
  v146 := Tryz.zeroValue165
  g1 := by kernel_rfl }
end Go.Proofs

/- General facts about slices that read as lists, used by the walks of this claim. Nothing here speaks of the program. -/
namespace Go.Proofs.YtonogeiopicibaaGreatDoor
open Go.RowKit

theorem ret_int {k : IntKind} {a b : Int} (h : a = b) : Ending.returned (.int k a) = .returned (.int k b) := by rw [h]
theorem ret_bool {a b : Bool} (h : a = b) : Ending.returned (.bool a) = .returned (.bool b) := by rw [h]
theorem ret_val {a b : Value} (h : a = b) : Ending.returned a = .returned b := by rw [h]

/-- The bounds of an int. -/
def Fits (x : Int) : Prop := -9223372036854775808 ≤ x ∧ x ≤ 9223372036854775807

theorem wf_of_fits {x : Int} (h : Fits x) : (Lit.int .i64 x).wf = true := by
  have h1 : IntKind.i64.min = -9223372036854775808 := by decide
  have h2 : IntKind.i64.max = 9223372036854775807 := by decide
  unfold Fits at h
  simp [Lit.wf, h1, h2]
  omega

/-- All that was there is as it was. -/
theorem ext_trans {w w1 w2 : World} (h1 : Below w.heap.size w w1) (h2 : Below w1.heap.size w1 w2) : Below w.heap.size w w2 := h1.trans (h2.mono h1.size)

theorem ext_alloc (w : World) (o : Obj) : Below w.heap.size w (w.alloc o) := (Below.refl _ _).alloc (Nat.le_refl _) o

theorem below_cells {B : Nat} {w w1 : World} (hb : Below B w w1) : (∀ b o, b < B → w1.cell? ⟨b, o, none⟩ = w.cell? ⟨b, o, none⟩) ∧ (∀ b o, b < B → w1.frozen? ⟨b, o, none⟩ = w.frozen? ⟨b, o, none⟩) :=
  ⟨fun b o h => hb.cell (p := ⟨b, o, none⟩) h, fun b o h => hb.frozen (p := ⟨b, o, none⟩) h⟩

/-- A block of two cells as the walk asks of it. -/
theorem box2 {w : World} {N : Nat} {x y : Value} {t : TypeId} (h : w.heap[N]? = some (.cells #[x, y] t (0, 0))) :
    w.cell? ⟨N, 0, none⟩ = some x ∧ w.cell? ⟨N, 1, none⟩ = some y ∧ (∀ o, w.frozen? ⟨N, o, none⟩ = false) ∧ N < w.heap.size := by
  refine ⟨by simp [World.cell?, h], by simp [World.cell?, h], fun o => by simp [World.frozen?, h], ?_⟩
  rcases Nat.lt_or_ge N w.heap.size with h' | h'
  · exact h'
  · rw [Array.getElem?_eq_none h'] at h; cases h
theorem box1 {w : World} {N : Nat} {x : Value} {t : TypeId} (h : w.heap[N]? = some (.cells #[x] t (0, 0))) :
    w.cell? ⟨N, 0, none⟩ = some x ∧ (∀ o, w.frozen? ⟨N, o, none⟩ = false) ∧ N < w.heap.size := by
  refine ⟨by simp [World.cell?, h], fun o => by simp [World.frozen?, h], ?_⟩
  rcases Nat.lt_or_ge N w.heap.size with h' | h'
  · exact h'
  · rw [Array.getElem?_eq_none h'] at h; cases h
theorem box2_set {w : World} {N : Nat} {x y : Value} {t : TypeId} (h : w.heap[N]? = some (.cells #[x, y] t (0, 0))) (a b : Value) :
    ((w.setCell ⟨N, 0, none⟩ a).setCell ⟨N, 1, none⟩ b).heap[N]? = some (.cells #[a, b] t (0, 0)) := by
  simp [World.setCell, Array.getElem?_modify, h]
theorem box_alloc {w : World} {N : Nat} {o : Obj} (h : w.heap[N]? = some o) (o' : Obj) : (w.alloc o').heap[N]? = some o := by
  have hN : N < w.heap.size := by
    rcases Nat.lt_or_ge N w.heap.size with h' | h'
    · exact h'
    · rw [Array.getElem?_eq_none h'] at h; cases h
  rw [Below.heap_alloc w o' N hN]; exact h
theorem heap_new (w : World) (o : Obj) : (w.alloc o).heap[w.heap.size]? = some o := by show (w.heap.push o)[w.heap.size]? = _; simp

/-- A slice value that reads as a list: one cell an element, the cell of x holds f x. -/
def RowOf {α : Type} (f : α → Value) (w : World) (v : Value) (l : List α) : Prop :=
  ∃ a cap, v = .slice a l.length cap ∧ l.length ≤ cap ∧ cap ≤ 9223372036854775807 ∧
    ∀ i (h : i < l.length), ∃ b off, a = some ⟨b, off, none⟩ ∧ w.cell? ⟨b, off + i, none⟩ = some (f l[i])

theorem RowOf.below {α : Type} {f : α → Value} {w w' : World} {v : Value} {l : List α} (h : RowOf f w v l) (hb : Below w.heap.size w w') : RowOf f w' v l := by
  obtain ⟨a, cap, rfl, hl, hm, hc⟩ := h
  refine ⟨a, cap, rfl, hl, hm, fun i hi => ?_⟩
  obtain ⟨b, off, rfl, hcell⟩ := hc i hi
  exact ⟨b, off, rfl, by rw [hb.cell (World.block_lt_of_cell? _ _ hcell)]; exact hcell⟩

theorem RowOf.nil {α : Type} (f : α → Value) (w : World) : RowOf f w (.slice none 0 0) [] := ⟨none, 0, rfl, by simp, by simp, fun i h => absurd h (by simp)⟩

/-- 'x[lo:hi]' of a slice that reads as l: it reads as the middle of l. The equation is for the walk. -/
theorem RowOf.slice {α : Type} {f : α → Value} {w : World} {v : Value} {l : List α} (h : RowOf f w v l) {P : Program} {t e : TypeId} (ht : P.underlying t = some (.slice e)) {i : TypeInfo} (hi : P.info? e = some i) (hs : i.size = 1)
    {lo hi' : Nat} (h1 : lo ≤ hi') (h2 : hi' ≤ l.length) :
    ∃ u, RowOf f w u ((l.take hi').drop lo) ∧ (∀ k, Value.ownBlock u = some k → Value.ownBlock v = some k) ∧ (∀ W, (Instr.slice t v (some (.int .i64 lo)) (some (.int .i64 hi')) none).run P W = .ok u W) ∧
      (hi' = l.length → ∀ W, (Instr.slice t v (some (.int .i64 lo)) none none).run P W = .ok u W) ∧
      (lo = 0 → ∀ W, (Instr.slice t v none (some (.int .i64 hi')) none).run P W = .ok u W) := by
  obtain ⟨a, cap, rfl, hl, hm, hc⟩ := h
  have he : P.elem t = e := by simp [Program.elem, ht]
  have ht' : P.underlying t = some (.slice (P.elem t)) := by rw [he]; exact ht
  have hz : ∀ W, (sizeOf (P.elem t)).run P W = .ok 1 W := by
    intro W; rw [he]; simp [sizeOf, typeInfo, hi, hs]
  refine ⟨sliced a lo hi' cap 1, ?_, ?_, fun W => ?_, fun hh W => ?_, fun hh W => ?_⟩
  · refine ⟨if cap = lo then a else a.map (·.add (lo * 1)), cap - lo, by simp [sliced]; omega, by simp; omega, by omega, fun i hlt => ?_⟩
    simp at hlt
    obtain ⟨b, off, rfl, hcell⟩ := hc (lo + i) (by omega)
    rw [if_neg (by omega)]
    by_cases h0 : lo = 0
    · subst h0
      exact ⟨b, off, by simp [Addr.add], by simpa using hcell⟩
    · exact ⟨b, off + lo, by simp [Addr.add, h0], by simpa [Nat.add_assoc] using hcell⟩
  · intro k hk
    simp only [sliced] at hk
    split at hk
    · cases a with
      | none => simp [Value.ownBlock] at hk
      | some a => simpa [Value.ownBlock] using hk
    · cases a with
      | none => simp [Value.ownBlock] at hk
      | some a => simp only [Option.map_some, Value.ownBlock, Addr.add] at hk ⊢; split at hk <;> simpa using hk
  · rw [run_slice_lh W t a l.length cap ht' _ _ _ _ (by omega) (by omega) (by omega), hz]
    simp [Result.andThen]
  · subst hh
    rw [run_slice_l W t a l.length cap ht' _ _ (by omega) (by omega), hz]
    simp [Result.andThen]
  · subst hh
    rw [run_slice_h W t a l.length cap ht' _ _ (by omega) (by omega), hz]
    simp [Result.andThen]

/-- A row of cells, each with its value. -/
abbrev Row (w : World) (v : Value) (cs : List Value) : Prop := RowOf (fun x => x) w v cs
/-- A slice value that reads as a list of integers. -/
abbrev Ints (w : World) (v : Value) (l : List Int) : Prop := RowOf (Value.int .i64) w v l

/-- A slice value that reads as a list of lists of integers. -/
def IntRows (w : World) (v : Value) (B : List (List Int)) : Prop :=
  ∃ vs : List Value, ∃ hl : vs.length = B.length, Row w v vs ∧ ∀ i (h : i < B.length), Ints w vs[i] B[i]

theorem IntRows.below {w w' : World} {v : Value} {B : List (List Int)} (h : IntRows w v B) (hb : Below w.heap.size w w') : IntRows w' v B := by
  obtain ⟨vs, hl, hr, hi⟩ := h
  exact ⟨vs, hl, hr.below hb, fun i h => (hi i h).below hb⟩

/-- The place of the first x, counted from k; -1 if there is none. -/
def idxFrom (x : Int) : List Int → Nat → Int
  | [], _ => -1
  | y :: l, k => if x == y then k else idxFrom x l (k + 1)

theorem idxFrom_drop (l : List Int) (x : Int) (k : Nat) (h : k < l.length) : idxFrom x (l.drop k) k = if x == l[k] then (k : Int) else idxFrom x (l.drop (k+1)) (k+1) := by
  rw [List.drop_eq_getElem_cons h, idxFrom]

def before (l : List Int) (a b : Int) : Bool := decide (0 ≤ idxFrom a l 0) && decide (idxFrom a l 0 < idxFrom b l 0)

/-- The least i from k on, below n, of which p holds; -1 if there is none. -/
def firstFrom (p : Nat → Bool) (n k : Nat) : Int := if h : k < n then (if p k then k else firstFrom p n (k + 1)) else -1
termination_by n - k

theorem firstFrom_yes {p : Nat → Bool} {n k : Nat} (h : k < n) (hp : p k = true) : firstFrom p n k = k := by
  unfold firstFrom; simp [h, hp]
theorem firstFrom_no {p : Nat → Bool} {n k : Nat} (h : k < n) (hp : p k = false) : firstFrom p n k = firstFrom p n (k + 1) := by
  rw [firstFrom]; simp [h, hp]
theorem firstFrom_end {p : Nat → Bool} {n k : Nat} (h : ¬ k < n) : firstFrom p n k = -1 := by
  unfold firstFrom; simp [h]
end Go.Proofs.YtonogeiopicibaaGreatDoor

/- Numbers as the document writes them: digits to the base 65536, the lowest first. Plain law; nothing here speaks of the program. -/
namespace Go.Proofs.YtonogeiopicibaaGreatDoor

/-- The value of digits. -/
def V : List Nat → Nat
  | [] => 0
  | d :: l => d + 65536 * V l
def Dg (l : List Nat) : Prop := ∀ d ∈ l, d < 65536
/-- The digits of a number, without leading zeros. -/
def dig (n : Nat) : List Nat := if n = 0 then [] else (n % 65536) :: dig (n / 65536)
decreasing_by omega

theorem dig_zero : dig 0 = [] := by rw [dig]; simp
theorem dig_pos {n : Nat} (h : n ≠ 0) : dig n = (n % 65536) :: dig (n / 65536) := by rw [dig]; simp [h]
theorem V_nil : V [] = 0 := rfl
theorem V_cons (d : Nat) (l : List Nat) : V (d :: l) = d + 65536 * V l := rfl
theorem V_append (a b : List Nat) : V (a ++ b) = V a + 65536 ^ a.length * V b := by
  induction a with
  | nil => simp [V_nil]
  | cons d a ih => rw [List.cons_append, V_cons, ih, V_cons, List.length_cons, Nat.pow_succ, Nat.mul_add]; rw [Nat.add_assoc]; congr 2; rw [← Nat.mul_assoc]; congr 1; exact Nat.mul_comm _ _
theorem V_snoc (a : List Nat) (d : Nat) : V (a ++ [d]) = V a + 65536 ^ a.length * d := by rw [V_append, V_cons, V_nil]; simp
theorem Dg.nil : Dg [] := fun _ h => by cases h
theorem Dg.snoc {a : List Nat} (h : Dg a) {d : Nat} (h1 : d < 65536) : Dg (a ++ [d]) := fun x hx => by
  rcases List.mem_append.1 hx with hx | hx
  · exact h x hx
  · rw [List.mem_singleton.1 hx]; exact h1
theorem Dg.take {a : List Nat} (h : Dg a) (n : Nat) : Dg (a.take n) := fun x hx => h x (List.mem_of_mem_take hx)
theorem Dg.at {a : List Nat} (h : Dg a) {i : Nat} (hi : i < a.length) : a[i] < 65536 := h _ (List.getElem_mem hi)
theorem Dg.set {a : List Nat} (h : Dg a) (i : Nat) {d : Nat} (h1 : d < 65536) : Dg (a.set i d) := fun x hx => by
  rcases List.mem_or_eq_of_mem_set hx with hx | rfl
  · exact h x hx
  · exact h1
theorem V_lt {l : List Nat} (h : Dg l) : V l < 65536 ^ l.length := by
  induction l with
  | nil => simp [V_nil]
  | cons d l ih =>
    have h1 := h d (List.mem_cons_self ..)
    have h2 := ih (fun x hx => h x (List.mem_cons_of_mem _ hx))
    rw [V_cons, List.length_cons, Nat.pow_succ]
    omega
theorem V_take_succ {l : List Nat} {m : Nat} (h : m < l.length) : V (l.take (m + 1)) = V (l.take m) + 65536 ^ m * l[m] := by
  rw [List.take_succ_eq_append_getElem h, V_snoc, List.length_take, Nat.min_eq_left (Nat.le_of_lt h)]
theorem V_take_drop (l : List Nat) (m : Nat) (h : m ≤ l.length) : V l = V (l.take m) + 65536 ^ m * V (l.drop m) := by
  have e := V_append (l.take m) (l.drop m)
  rw [List.take_append_drop, List.length_take, Nat.min_eq_left h] at e
  exact e
theorem V_zeros (n : Nat) : V (List.replicate n 0) = 0 := by
  induction n with
  | zero => rfl
  | succ n ih => rw [List.replicate_succ, V_cons, ih]
theorem Dg_zeros (n : Nat) : Dg (List.replicate n 0) := fun x hx => by rw [List.eq_of_mem_replicate hx]; decide

theorem dig_Dg (n : Nat) : Dg (dig n) := by
  induction n using Nat.strongRecOn with
  | _ n ih =>
    by_cases h : n = 0
    · subst h; rw [dig_zero]; exact Dg.nil
    · rw [dig_pos h]
      intro x hx
      rcases List.mem_cons.1 hx with rfl | hx
      · omega
      · exact ih (n / 65536) (by omega) x hx
theorem V_dig (n : Nat) : V (dig n) = n := by
  induction n using Nat.strongRecOn with
  | _ n ih =>
    by_cases h : n = 0
    · subst h; rw [dig_zero]; rfl
    · rw [dig_pos h, V_cons, ih (n / 65536) (by omega)]; omega
/-- The last digit is not 0. -/
def NoLead (l : List Nat) : Prop := ∀ h : l ≠ [], l.getLast h ≠ 0
theorem dig_noLead (n : Nat) : NoLead (dig n) := by
  induction n using Nat.strongRecOn with
  | _ n ih =>
    by_cases h : n = 0
    · subst h; rw [dig_zero]; exact fun h => absurd rfl h
    · rw [dig_pos h]
      intro hne
      by_cases h2 : n / 65536 = 0
      · simp only [h2, dig_zero, List.getLast_singleton]
        omega
      · have h3 : dig (n / 65536) ≠ [] := by rw [dig_pos h2]; simp
        rw [List.getLast_cons h3]
        exact ih (n / 65536) (by omega) h3
/-- Digits without a leading zero are the digits of their value. -/
theorem dig_V {l : List Nat} (h : Dg l) (hn : NoLead l) : dig (V l) = l := by
  induction l with
  | nil => exact dig_zero
  | cons d l ih =>
    have h1 := h d (List.mem_cons_self ..)
    have hl : Dg l := fun x hx => h x (List.mem_cons_of_mem _ hx)
    have hnl : NoLead l := fun hne => by
      have := hn (by simp)
      rw [List.getLast_cons hne] at this
      exact this
    have h0 : V (d :: l) ≠ 0 := by
      rw [V_cons]
      intro e
      have hd : d = 0 := by omega
      have hv : V l = 0 := by omega
      cases l with
      | nil => exact hn (by simp) (by simpa using hd)
      | cons x l =>
        have := ih hl hnl
        rw [hv, dig_zero] at this
        cases this
    rw [dig_pos h0, V_cons]
    have e1 : (d + 65536 * V l) % 65536 = d := by omega
    have e2 : (d + 65536 * V l) / 65536 = V l := by omega
    rw [e1, e2, ih hl hnl]
theorem dig_length_le {n k : Nat} (h : n < 65536 ^ k) : (dig n).length ≤ k := by
  induction k generalizing n with
  | zero => have : n = 0 := by simpa using h
            subst this; rw [dig_zero]; simp
  | succ k ih =>
    by_cases h0 : n = 0
    · subst h0; rw [dig_zero]; simp
    · rw [dig_pos h0, List.length_cons]
      have := ih (n := n / 65536) (by rw [Nat.pow_succ] at h; omega)
      omega
theorem dig_lt (n : Nat) : n < 65536 ^ (dig n).length := by
  have := V_lt (dig_Dg n)
  rwa [V_dig] at this
theorem dig_ge {n : Nat} (h : n ≠ 0) : 65536 ^ ((dig n).length - 1) ≤ n := by
  rcases Nat.lt_or_ge n (65536 ^ ((dig n).length - 1)) with h1 | h1
  · have h2 := dig_length_le h1
    have : (dig n).length ≠ 0 := by rw [dig_pos h]; simp
    omega
  · exact h1
theorem dig_len_lt {x y : Nat} (h : (dig x).length < (dig y).length) : x < y := by
  have h0 : y ≠ 0 := by intro e; subst e; rw [dig_zero] at h; simp at h
  have h1 := dig_lt x
  have h2 := dig_ge h0
  exact Nat.lt_of_lt_of_le h1 (Nat.le_trans (Nat.pow_le_pow_right (by omega) (by omega)) h2)
theorem dig_len_mono {x y : Nat} (h : x ≤ y) : (dig x).length ≤ (dig y).length := by
  rcases Nat.lt_or_ge (dig y).length (dig x).length with h1 | h1
  · have := dig_len_lt h1; omega
  · exact h1
theorem dig_eq_nil {n : Nat} : dig n = [] ↔ n = 0 := by
  constructor
  · intro h
    by_cases h0 : n = 0
    · exact h0
    · rw [dig_pos h0] at h; cases h
  · rintro rfl; exact dig_zero

/-- What is left when leading zeros go, one by one. -/
theorem trim_step {l : List Nat} {m : Nat} (h : m < l.length) (h0 : l[m] = 0) : V (l.take (m + 1)) = V (l.take m) := by
  rw [V_take_succ h, h0]; simp
theorem trim_end {l : List Nat} (hd : Dg l) {m : Nat} (h : m ≤ l.length) (h0 : ∀ hm : 0 < m, l[m - 1] ≠ 0) : dig (V (l.take m)) = l.take m := by
  refine dig_V (hd.take m) (fun hne => ?_)
  have hm : 0 < m := by
    rcases Nat.eq_zero_or_pos m with rfl | h1
    · simp at hne
    · exact h1
  rw [List.getLast_eq_getElem]
  simp only [List.length_take, Nat.min_eq_left h, List.getElem_take]
  exact h0 hm

theorem getD_lt {l : List Nat} {i : Nat} (h : i < l.length) : l.getD i 0 = l[i] := by rw [List.getD_eq_getElem?_getD, List.getElem?_eq_getElem h]; rfl
theorem getD_ge {l : List Nat} {i : Nat} (h : l.length ≤ i) : l.getD i 0 = 0 := by rw [List.getD_eq_getElem?_getD, List.getElem?_eq_none h]; rfl
theorem V_take_succ' (l : List Nat) (i : Nat) : V (l.take (i + 1)) = V (l.take i) + 65536 ^ i * (l.getD i 0) := by
  by_cases hl : i < l.length
  · rw [V_take_succ hl, getD_lt hl]
  · rw [List.take_of_length_le (by omega), List.take_of_length_le (by omega), getD_ge (by omega)]; simp
/-- One step of an addition. -/
theorem plus_step {la lb o : List Nat} {i c x : Nat} (h : V o + c * 65536 ^ i = V (la.take i) + V (lb.take i)) (ho : o.length = i)
    (hx : x = c + (la.getD i 0) + (lb.getD i 0)) :
    V (o ++ [(x % 65536)]) + x / 65536 * 65536 ^ (i + 1) = V (la.take (i + 1)) + V (lb.take (i + 1)) := by
  rw [V_snoc, ho, V_take_succ' la, V_take_succ' lb, Nat.pow_succ]
  generalize 65536 ^ i = B at *
  have e : x = 65536 * (x / 65536) + x % 65536 := (Nat.div_add_mod x 65536).symm
  have e2 : B * x = B * (65536 * (x / 65536)) + B * (x % 65536) := by rw [← Nat.mul_add, ← e]
  have e3 : B * x = B * c + B * (la.getD i 0) + B * (lb.getD i 0) := by rw [hx, Nat.mul_add, Nat.mul_add]
  have e4 : x / 65536 * (B * 65536) = B * (65536 * (x / 65536)) := by rw [Nat.mul_comm, Nat.mul_assoc]
  have e5 : c * B = B * c := Nat.mul_comm _ _
  omega
/-- One step of a subtraction. -/
theorem minus_step {la lb o : List Nat} {i c x c' : Nat} (h : V o + V (lb.take i) = V (la.take i) + c * 65536 ^ i) (ho : o.length = i) (hi : i < la.length) (hx : x + (lb.getD i 0) + c = la[i] + 65536 * c') :
    V (o ++ [x]) + V (lb.take (i + 1)) = V (la.take (i + 1)) + c' * 65536 ^ (i + 1) := by
  rw [V_snoc, ho, V_take_succ' lb, V_take_succ hi, Nat.pow_succ]
  generalize 65536 ^ i = B at *
  have e1 : B * x + B * (lb.getD i 0) + B * c = B * la[i] + B * (65536 * c') := by rw [← Nat.mul_add, ← Nat.mul_add, ← Nat.mul_add, hx]
  have e2 : c' * (B * 65536) = B * (65536 * c') := by rw [Nat.mul_comm, Nat.mul_assoc]
  have e3 : c * B = B * c := Nat.mul_comm _ _
  omega

/-- The order of two numbers, as -1, 0 or 1. -/
def cmpN (x y : Nat) : Int := if x < y then -1 else if y < x then 1 else 0
theorem V_split {l : List Nat} {i : Nat} (h : i < l.length) : V l = V (l.take i) + 65536 ^ i * (l[i] + 65536 * V (l.drop (i + 1))) := by
  rw [V_take_drop l i (Nat.le_of_lt h), List.drop_eq_getElem_cons h, V_cons]
theorem lt_at {la lb : List Nat} {i : Nat} (ha : Dg la) (hl : la.length = lb.length) (hi : i < la.length) (hd : la.drop (i + 1) = lb.drop (i + 1)) (h : la[i] < lb[i]) : V la < V lb := by
  rw [V_split hi, V_split (l := lb) (i := i) (by omega), hd]
  have h1 := V_lt (ha.take i)
  rw [List.length_take, Nat.min_eq_left (Nat.le_of_lt hi)] at h1
  generalize 65536 * V (lb.drop (i + 1)) = D
  have h4 : 65536 ^ i * (la[i] + D) + 65536 ^ i ≤ 65536 ^ i * (lb[i] + D) := by
    rw [← Nat.mul_succ]; exact Nat.mul_le_mul_left _ (by omega)
  omega
/-- One step of a doubling. -/
theorem double_step {la o : List Nat} {i c one x : Nat} (h : V o + c * 65536 ^ i = 2 * V (la.take i) + one) (ho : o.length = i) (hi : i < la.length) (hx : x = 2 * la[i] + c) :
    V (o ++ [(x % 65536)]) + x / 65536 * 65536 ^ (i + 1) = 2 * V (la.take (i + 1)) + one := by
  rw [V_snoc, ho, V_take_succ hi, Nat.pow_succ]
  generalize 65536 ^ i = B at *
  have e : x = 65536 * (x / 65536) + x % 65536 := (Nat.div_add_mod x 65536).symm
  have e2 : B * x = B * (65536 * (x / 65536)) + B * (x % 65536) := by rw [← Nat.mul_add, ← e]
  have e3 : B * x = B * (2 * la[i]) + B * c := by rw [hx, Nat.mul_add]
  have e4 : x / 65536 * (B * 65536) = B * (65536 * (x / 65536)) := by rw [Nat.mul_comm, Nat.mul_assoc]
  have e5 : c * B = B * c := Nat.mul_comm _ _
  have e6 : B * (2 * la[i]) = 2 * (B * la[i]) := by rw [Nat.mul_left_comm]
  omega
/-- One step of a division by a digit, from the top. -/
theorem halve_step {la out : List Nat} {i d rest y : Nat} (h : V (la.drop (i + 1)) = d * V (out.drop (i + 1)) + rest) (hi : i < la.length) (hl : out.length = la.length) (hy : y = rest * 65536 + la[i]) :
    V (la.drop i) = d * V ((out.set i (y / d)).drop i) + y % d := by
  rw [List.drop_eq_getElem_cons hi, V_cons, h, List.drop_eq_getElem_cons (l := out.set i _) (i := i) (by simp; omega), V_cons, List.getElem_set_self, List.drop_set_of_lt (by omega)]
  have e := Nat.div_add_mod y d
  generalize V (out.drop (i + 1)) = Q
  have e1 : d * (y / d + 65536 * Q) = d * (y / d) + 65536 * (d * Q) := by rw [Nat.mul_add, Nat.mul_left_comm]
  rw [e1]
  omega

/-- Binary digits, the lowest first. -/
def VB : List Bool → Nat
  | [] => 0
  | b :: l => b.toNat + 2 * VB l
theorem VB_cons (b : Bool) (l : List Bool) : VB (b :: l) = b.toNat + 2 * VB l := rfl
theorem VB_append (a b : List Bool) : VB (a ++ b) = VB a + 2 ^ a.length * VB b := by
  induction a with
  | nil => simp [VB]
  | cons d a ih => rw [List.cons_append, VB_cons, ih, VB_cons, List.length_cons, Nat.pow_succ, Nat.mul_add, Nat.add_assoc]; congr 2; rw [← Nat.mul_assoc]; congr 1; exact Nat.mul_comm _ _
theorem VB_snoc (a : List Bool) (b : Bool) : VB (a ++ [b]) = VB a + 2 ^ a.length * b.toNat := by rw [VB_append, VB_cons]; simp [VB]
theorem VB_lt (l : List Bool) : VB l < 2 ^ l.length := by
  induction l with
  | nil => simp [VB]
  | cons b l ih => rw [VB_cons, List.length_cons, Nat.pow_succ]; cases b <;> simp <;> omega
theorem VB_take_succ {l : List Bool} {m : Nat} (h : m < l.length) : VB (l.take (m + 1)) = VB (l.take m) + 2 ^ m * l[m].toNat := by
  rw [List.take_succ_eq_append_getElem h, VB_snoc, List.length_take, Nat.min_eq_left (Nat.le_of_lt h)]
theorem VB_zeros (n : Nat) : VB (List.replicate n false) = 0 := by
  induction n with
  | zero => rfl
  | succ n ih => rw [List.replicate_succ, VB_cons, ih]; rfl
def NoLeadB (l : List Bool) : Prop := ∀ h : l ≠ [], l.getLast h = true
/-- The binary digits of a number, without leading zeros. -/
def bitsN (n : Nat) : List Bool := if n = 0 then [] else (n % 2 == 1) :: bitsN (n / 2)
decreasing_by omega
theorem bitsN_zero : bitsN 0 = [] := by rw [bitsN]; simp
theorem bitsN_pos {n : Nat} (h : n ≠ 0) : bitsN n = (n % 2 == 1) :: bitsN (n / 2) := by rw [bitsN]; simp [h]
theorem VB_bitsN (n : Nat) : VB (bitsN n) = n := by
  induction n using Nat.strongRecOn with
  | _ n ih =>
    by_cases h : n = 0
    · subst h; rw [bitsN_zero]; rfl
    · rw [bitsN_pos h, VB_cons, ih (n / 2) (by omega)]
      rcases Nat.mod_two_eq_zero_or_one n with h2 | h2 <;> simp [h2] <;> omega
theorem bitsN_VB {l : List Bool} (hn : NoLeadB l) : bitsN (VB l) = l := by
  induction l with
  | nil => exact bitsN_zero
  | cons d l ih =>
    have hnl : NoLeadB l := fun hne => by
      have := hn (by simp)
      rw [List.getLast_cons hne] at this
      exact this
    have h0 : VB (d :: l) ≠ 0 := by
      rw [VB_cons]
      intro e
      have hv : VB l = 0 := by omega
      cases l with
      | nil =>
        have h1 : d = true := by simpa using hn (by simp)
        subst h1; simp at e
      | cons x l =>
        have := ih hnl
        rw [hv, bitsN_zero] at this
        cases this
    rw [bitsN_pos h0, VB_cons]
    have e1 : (d.toNat + 2 * VB l) % 2 = d.toNat := by cases d <;> simp <;> omega
    have e2 : (d.toNat + 2 * VB l) / 2 = VB l := by cases d <;> simp <;> omega
    rw [e1, e2, ih hnl]
    cases d <;> rfl
theorem bitsN_length_le {n k : Nat} (h : n < 2 ^ k) : (bitsN n).length ≤ k := by
  induction k generalizing n with
  | zero => have : n = 0 := by simpa using h
            subst this; rw [bitsN_zero]; simp
  | succ k ih =>
    by_cases h0 : n = 0
    · subst h0; rw [bitsN_zero]; simp
    · rw [bitsN_pos h0, List.length_cons]
      have := ih (n := n / 2) (by rw [Nat.pow_succ] at h; omega)
      omega
theorem trimB_step {l : List Bool} {m : Nat} (h : m < l.length) (h0 : l[m] = false) : VB (l.take (m + 1)) = VB (l.take m) := by
  rw [VB_take_succ h, h0]; simp
theorem trimB_end {l : List Bool} {m : Nat} (h : m ≤ l.length) (h0 : ∀ hm : 0 < m, l[m - 1] = true) : bitsN (VB (l.take m)) = l.take m := by
  refine bitsN_VB (fun hne => ?_)
  have hm : 0 < m := by
    rcases Nat.eq_zero_or_pos m with rfl | h1
    · simp at hne
    · exact h1
  rw [List.getLast_eq_getElem]
  simp only [List.length_take, Nat.min_eq_left h, List.getElem_take]
  exact h0 hm
/-- One step of taking a digit apart into bits. -/
theorem ones_step {o : List Bool} {j x X : Nat} (h : VB o + x * 2 ^ j = X) (ho : o.length = j) : VB (o ++ [x % 2 == 1]) + x / 2 * 2 ^ (j + 1) = X := by
  rw [VB_snoc, ho, Nat.pow_succ, ← h]
  have e : x = 2 * (x / 2) + x % 2 := (Nat.div_add_mod x 2).symm
  have e2 : x * 2 ^ j = x / 2 * (2 ^ j * 2) + 2 ^ j * (x % 2) := by
    conv => lhs; rw [e, Nat.add_mul]
    rw [Nat.mul_comm (x % 2), Nat.mul_comm 2 (x / 2), Nat.mul_assoc, Nat.mul_comm 2 (2 ^ j)]
  have e3 : (x % 2 == 1).toNat = x % 2 := by rcases Nat.mod_two_eq_zero_or_one x with h2 | h2 <;> simp [h2]
  rw [e3]
  omega
end Go.Proofs.YtonogeiopicibaaGreatDoor

/- Numbers as the document writes them: steps of products, of binary digits, of divisions and of the greatest common divisor. Plain law. -/
namespace Go.Proofs.YtonogeiopicibaaGreatDoor

theorem V_set {o : List Nat} {j : Nat} {d : Nat} (h : j < o.length) : V (o.set j d) + 65536 ^ j * o[j] = V o + 65536 ^ j * d := by
  have e1 := V_split (l := o.set j d) (i := j) (by simpa using h)
  have e2 := V_split (l := o) (i := j) h
  rw [List.getElem_set_self, List.take_set_of_le (Nat.le_refl _), List.drop_set_of_lt (by omega)] at e1
  rw [e1, e2]
  generalize V (o.drop (j + 1)) = D
  generalize V (o.take j) = T
  generalize 65536 ^ j = B
  rw [Nat.mul_add, Nat.mul_add]
  omega
/-- One step of a row of a product. -/
theorem times_step {o lb : List Nat} {i k c a x S : Nat} (h : V o + c * 65536 ^ (i + k) = S + a * 65536 ^ i * V (lb.take k)) (hj : i + k < o.length) (hx : x = o[i + k] + c + a * (lb.getD k 0)) :
    V (o.set (i + k) (x % 65536)) + x / 65536 * 65536 ^ (i + (k + 1)) = S + a * 65536 ^ i * V (lb.take (k + 1)) := by
  have e1 := V_set (o := o) (j := i + k) (d := (x % 65536)) hj
  rw [V_take_succ', show i + (k + 1) = i + k + 1 by omega, Nat.mul_add (a * 65536 ^ i), ← Nat.add_assoc S, ← h, Nat.pow_succ 65536 (i + k)]
  have e0 : a * 65536 ^ i * (65536 ^ k * (lb.getD k 0)) = 65536 ^ (i + k) * (a * (lb.getD k 0)) := by
    rw [Nat.pow_add, Nat.mul_assoc, Nat.mul_left_comm a, Nat.mul_left_comm a (65536 ^ k), Nat.mul_assoc]
  rw [e0]
  generalize 65536 ^ (i + k) = B at *
  have e : x = 65536 * (x / 65536) + x % 65536 := (Nat.div_add_mod x 65536).symm
  have e2 : B * x = B * (65536 * (x / 65536)) + B * (x % 65536) := by rw [← Nat.mul_add, ← e]
  have e3 : B * x = B * o[i + k] + B * c + B * (a * (lb.getD k 0)) := by rw [hx, Nat.mul_add, Nat.mul_add]
  have e4 : x / 65536 * (B * 65536) = B * (65536 * (x / 65536)) := by rw [Nat.mul_comm, Nat.mul_assoc]
  have e5 : c * B = B * c := Nat.mul_comm _ _
  omega
/-- A row of a product stays inside. -/
theorem times_in {o la lb : List Nat} {i k c : Nat} (ha : Dg la) (hb : Dg lb) (hi : i < la.length) (hc : 0 < c)
    (h : V o + c * 65536 ^ (i + k) = V (la.take i) * V lb + la[i] * 65536 ^ i * V lb) : k ≤ lb.length := by
  have e1 : V (la.take i) * V lb + la[i] * 65536 ^ i * V lb = V (la.take (i + 1)) * V lb := by
    rw [V_take_succ hi, Nat.add_mul, Nat.mul_comm (65536 ^ i)]
  have h1 := V_lt (ha.take (i + 1))
  rw [List.length_take, Nat.min_eq_left hi] at h1
  have h2 := V_lt hb
  have h3 : V (la.take (i + 1)) * V lb < 65536 ^ (i + 1) * 65536 ^ lb.length := Nat.mul_lt_mul_of_lt_of_le h1 (Nat.le_of_lt h2) (Nat.pow_pos (by omega))
  rw [← Nat.pow_add] at h3
  have h4 : 65536 ^ (i + k) ≤ c * 65536 ^ (i + k) := Nat.le_mul_of_pos_left _ hc
  rcases Nat.lt_or_ge lb.length k with h5 | h5
  · have h6 : 65536 ^ (i + 1 + lb.length) ≤ 65536 ^ (i + k) := Nat.pow_le_pow_right (by omega) (by omega)
    omega
  · exact h5
theorem times_row {la : List Nat} {i y : Nat} (hi : i < la.length) : V (la.take i) * y + la[i] * 65536 ^ i * y = V (la.take (i + 1)) * y := by
  rw [V_take_succ hi, Nat.add_mul, Nat.mul_comm (65536 ^ i)]

/-- The bits of a digit, read from the top. -/
def chunk (l : List Bool) (i k : Nat) : Nat := VB ((l.drop (i + k)).take (16 - k))
theorem chunk_top (l : List Bool) (i : Nat) : chunk l i 16 = 0 := by unfold chunk; simp [VB]
theorem chunk_step {l : List Bool} {i k : Nat} (hk : k < 16) : chunk l i k = 2 * chunk l i (k + 1) + (if h : i + k < l.length then (l[i + k]).toNat else 0) := by
  unfold chunk
  by_cases h : i + k < l.length
  · rw [dif_pos h, List.drop_eq_getElem_cons h, show 16 - k = 16 - (k + 1) + 1 by omega, List.take_succ_cons, VB_cons, show i + (k + 1) = i + k + 1 by omega]; omega
  · rw [dif_neg h, List.drop_of_length_le (by omega), List.drop_of_length_le (by omega)]; simp [VB]
theorem chunk_lt (l : List Bool) (i k : Nat) : chunk l i k < 65536 := by
  have h1 := VB_lt ((l.drop (i + k)).take (16 - k))
  have h2 : 2 ^ ((l.drop (i + k)).take (16 - k)).length ≤ 2 ^ 16 := Nat.pow_le_pow_right (by omega) (by simp; omega)
  unfold chunk; omega
theorem binary_step {l : List Bool} {o : List Nat} {j : Nat} (h : V o = VB (l.take (16 * j))) (ho : o.length = j) (hj : 16 * j < l.length) : V (o ++ [(chunk l (16 * j) 0)]) = VB (l.take (16 * (j + 1))) := by
  rw [V_snoc, h, ho]
  have e : l.take (16 * (j + 1)) = l.take (16 * j) ++ (l.drop (16 * j)).take 16 := by rw [show 16 * (j + 1) = 16 * j + 16 by omega, List.take_add]
  rw [e, VB_append, List.length_take, Nat.min_eq_left (Nat.le_of_lt hj), Nat.pow_mul]
  rfl

/-- One step of a long division, bit by bit. -/
theorem divide_step {l q : List Bool} {i b R R' : Nat} {t : Bool} (hi : i < l.length) (hq : q.length = l.length) (h : VB (l.drop (i + 1)) = VB (q.drop (i + 1)) * b + R)
    (hR : R' + (if t then b else 0) = 2 * R + (l[i]).toNat) : VB (l.drop i) = VB ((q.set i t).drop i) * b + R' := by
  rw [List.drop_eq_getElem_cons hi, VB_cons, h, List.drop_eq_getElem_cons (l := q.set i t) (i := i) (by simp; omega), VB_cons, List.getElem_set_self, List.drop_set_of_lt (by omega)]
  generalize VB (q.drop (i + 1)) = Z
  have e : 2 * (Z * b) = 2 * Z * b := by rw [Nat.mul_assoc]
  cases t with
  | true =>
    simp only [if_true] at hR
    have e2 : (true.toNat + 2 * Z) * b = b + 2 * Z * b := by rw [Nat.add_mul]; simp
    rw [e2]; omega
  | false =>
    simp at hR
    have e2 : (false.toNat + 2 * Z) * b = 2 * Z * b := by simp
    rw [e2]; omega
theorem divide_end {x b Q R : Nat} (h : x = Q * b + R) (hR : R < b) : Q = x / b ∧ R = x % b := by
  subst h
  constructor
  · rw [Nat.mul_comm, Nat.mul_add_div (by omega), Nat.div_eq_of_lt hR]; simp
  · rw [Nat.mul_comm, Nat.mul_add_mod, Nat.mod_eq_of_lt hR]

theorem gcd_even2 {a b : Nat} (ha : a % 2 = 0) (hb : b % 2 = 0) : Nat.gcd a b = 2 * Nat.gcd (a / 2) (b / 2) := by
  rw [← Nat.gcd_mul_left, show 2 * (a / 2) = a by omega, show 2 * (b / 2) = b by omega]
theorem gcd_even1 {a b : Nat} (ha : a % 2 = 0) (hb : b % 2 = 1) : Nat.gcd a b = Nat.gcd (a / 2) b := by
  have h : Nat.Coprime 2 b := by
    have h1 : Nat.gcd 2 b ∣ 2 := Nat.gcd_dvd_left 2 b
    have h2 := Nat.gcd_dvd_right 2 b
    have h3 := Nat.le_of_dvd (by omega) h1
    have h0 : Nat.gcd 2 b ≠ 0 := fun e => by rw [e] at h1; simp at h1
    rcases (show Nat.gcd 2 b = 1 ∨ Nat.gcd 2 b = 2 by omega) with h4 | h4
    · exact h4
    · rw [h4] at h2
      omega
  have e : a = 2 * (a / 2) := by omega
  conv => lhs; rw [e]
  exact Nat.Coprime.gcd_mul_left_cancel _ h
theorem gcd_less {a b : Nat} (h : b ≤ a) : Nat.gcd a b = Nat.gcd (a - b) b := by
  conv => lhs; rw [show a = (a - b) + b by omega]
  exact Nat.gcd_add_self_left ..

/-- A sum goes on only as far as its longer part. -/
theorem plus_in {la lb o : List Nat} {k c : Nat} (ha : Dg la) (hb : Dg lb) (h : V o + c * 65536 ^ k = V (la.take k) + V (lb.take k)) (hc : 0 < c) : k ≤ la.length + lb.length := by
  rcases Nat.lt_or_ge (la.length + lb.length) k with h1 | h1
  · rw [List.take_of_length_le (by omega), List.take_of_length_le (by omega)] at h
    have h2 := V_lt ha
    have h3 := V_lt hb
    have h4 : 65536 ^ la.length ≤ 65536 ^ (la.length + lb.length) := Nat.pow_le_pow_right (by omega) (by omega)
    have h5 : 65536 ^ lb.length ≤ 65536 ^ (la.length + lb.length) := Nat.pow_le_pow_right (by omega) (by omega)
    have h6 : 65536 ^ (la.length + lb.length + 1) ≤ 65536 ^ k := Nat.pow_le_pow_right (by omega) (by omega)
    have h7 : 65536 ^ k ≤ c * 65536 ^ k := Nat.le_mul_of_pos_left _ hc
    rw [Nat.pow_succ] at h6
    omega
  · exact h1
theorem plus_done {la lb o : List Nat} {k : Nat} (h : V o + 0 * 65536 ^ k = V (la.take k) + V (lb.take k)) (h1 : la.length ≤ k) (h2 : lb.length ≤ k) : V o = V la + V lb := by
  rw [List.take_of_length_le h1, List.take_of_length_le h2] at h; omega
theorem minus_done {la lb o : List Nat} {c : Nat} (ho : Dg o) (hl : o.length = la.length) (h : V o + V (lb.take la.length) = V (la.take la.length) + c * 65536 ^ la.length) (hle : V lb ≤ V la) (hbl : lb.length ≤ la.length) : V o = V la - V lb := by
  rw [List.take_of_length_le hbl, List.take_of_length_le (Nat.le_refl _)] at h
  have h1 := V_lt ho
  rw [hl] at h1
  rcases Nat.eq_zero_or_pos c with rfl | hc
  · omega
  · have h7 : 65536 ^ la.length ≤ c * 65536 ^ la.length := Nat.le_mul_of_pos_left _ hc
    omega
end Go.Proofs.YtonogeiopicibaaGreatDoor

/- Limbs: digits to the base 2^32, and how they are taken apart and put together. Plain law. -/
namespace Go.Proofs.YtonogeiopicibaaGreatDoor

/-- The value of digits. -/
def VL : List Nat → Nat
  | [] => 0
  | d :: l => d + 4294967296 * VL l
def Lg (l : List Nat) : Prop := ∀ d ∈ l, d < 4294967296
/-- The digits of a number, without leading zeros. -/
def lim (n : Nat) : List Nat := if n = 0 then [] else (n % 4294967296) :: lim (n / 4294967296)
decreasing_by omega

theorem lim_zero : lim 0 = [] := by rw [lim]; simp
theorem lim_pos {n : Nat} (h : n ≠ 0) : lim n = (n % 4294967296) :: lim (n / 4294967296) := by rw [lim]; simp [h]
theorem L_nil : VL [] = 0 := rfl
theorem L_cons (d : Nat) (l : List Nat) : VL (d :: l) = d + 4294967296 * VL l := rfl
theorem L_append (a b : List Nat) : VL (a ++ b) = VL a + 4294967296 ^ a.length * VL b := by
  induction a with
  | nil => simp [L_nil]
  | cons d a ih => rw [List.cons_append, L_cons, ih, L_cons, List.length_cons, Nat.pow_succ, Nat.mul_add]; rw [Nat.add_assoc]; congr 2; rw [← Nat.mul_assoc]; congr 1; exact Nat.mul_comm _ _
theorem L_snoc (a : List Nat) (d : Nat) : VL (a ++ [d]) = VL a + 4294967296 ^ a.length * d := by rw [L_append, L_cons, L_nil]; simp
theorem Lg.nil : Lg [] := fun _ h => by cases h
theorem Lg.snoc {a : List Nat} (h : Lg a) {d : Nat} (h1 : d < 4294967296) : Lg (a ++ [d]) := fun x hx => by
  rcases List.mem_append.1 hx with hx | hx
  · exact h x hx
  · rw [List.mem_singleton.1 hx]; exact h1
theorem Lg.take {a : List Nat} (h : Lg a) (n : Nat) : Lg (a.take n) := fun x hx => h x (List.mem_of_mem_take hx)
theorem Lg.at {a : List Nat} (h : Lg a) {i : Nat} (hi : i < a.length) : a[i] < 4294967296 := h _ (List.getElem_mem hi)
theorem Lg.set {a : List Nat} (h : Lg a) (i : Nat) {d : Nat} (h1 : d < 4294967296) : Lg (a.set i d) := fun x hx => by
  rcases List.mem_or_eq_of_mem_set hx with hx | rfl
  · exact h x hx
  · exact h1
theorem L_lt {l : List Nat} (h : Lg l) : VL l < 4294967296 ^ l.length := by
  induction l with
  | nil => simp [L_nil]
  | cons d l ih =>
    have h1 := h d (List.mem_cons_self ..)
    have h2 := ih (fun x hx => h x (List.mem_cons_of_mem _ hx))
    rw [L_cons, List.length_cons, Nat.pow_succ]
    omega
theorem L_take_succ {l : List Nat} {m : Nat} (h : m < l.length) : VL (l.take (m + 1)) = VL (l.take m) + 4294967296 ^ m * l[m] := by
  rw [List.take_succ_eq_append_getElem h, L_snoc, List.length_take, Nat.min_eq_left (Nat.le_of_lt h)]
theorem L_take_drop (l : List Nat) (m : Nat) (h : m ≤ l.length) : VL l = VL (l.take m) + 4294967296 ^ m * VL (l.drop m) := by
  have e := L_append (l.take m) (l.drop m)
  rw [List.take_append_drop, List.length_take, Nat.min_eq_left h] at e
  exact e
theorem L_zeros (n : Nat) : VL (List.replicate n 0) = 0 := by
  induction n with
  | zero => rfl
  | succ n ih => rw [List.replicate_succ, L_cons, ih]
theorem Lg_zeros (n : Nat) : Lg (List.replicate n 0) := fun x hx => by rw [List.eq_of_mem_replicate hx]; decide

theorem lim_Dg (n : Nat) : Lg (lim n) := by
  induction n using Nat.strongRecOn with
  | _ n ih =>
    by_cases h : n = 0
    · subst h; rw [lim_zero]; exact Lg.nil
    · rw [lim_pos h]
      intro x hx
      rcases List.mem_cons.1 hx with rfl | hx
      · omega
      · exact ih (n / 4294967296) (by omega) x hx
theorem L_dig (n : Nat) : VL (lim n) = n := by
  induction n using Nat.strongRecOn with
  | _ n ih =>
    by_cases h : n = 0
    · subst h; rw [lim_zero]; rfl
    · rw [lim_pos h, L_cons, ih (n / 4294967296) (by omega)]; omega
/-- The last digit is not 0. -/
def NoLeadL (l : List Nat) : Prop := ∀ h : l ≠ [], l.getLast h ≠ 0
theorem lim_noLead (n : Nat) : NoLeadL (lim n) := by
  induction n using Nat.strongRecOn with
  | _ n ih =>
    by_cases h : n = 0
    · subst h; rw [lim_zero]; exact fun h => absurd rfl h
    · rw [lim_pos h]
      intro hne
      by_cases h2 : n / 4294967296 = 0
      · simp only [h2, lim_zero, List.getLast_singleton]
        omega
      · have h3 : lim (n / 4294967296) ≠ [] := by rw [lim_pos h2]; simp
        rw [List.getLast_cons h3]
        exact ih (n / 4294967296) (by omega) h3
/-- Digits without a leading zero are the digits of their value. -/
theorem lim_V {l : List Nat} (h : Lg l) (hn : NoLeadL l) : lim (VL l) = l := by
  induction l with
  | nil => exact lim_zero
  | cons d l ih =>
    have h1 := h d (List.mem_cons_self ..)
    have hl : Lg l := fun x hx => h x (List.mem_cons_of_mem _ hx)
    have hnl : NoLeadL l := fun hne => by
      have := hn (by simp)
      rw [List.getLast_cons hne] at this
      exact this
    have h0 : VL (d :: l) ≠ 0 := by
      rw [L_cons]
      intro e
      have hd : d = 0 := by omega
      have hv : VL l = 0 := by omega
      cases l with
      | nil => exact hn (by simp) (by simpa using hd)
      | cons x l =>
        have := ih hl hnl
        rw [hv, lim_zero] at this
        cases this
    rw [lim_pos h0, L_cons]
    have e1 : (d + 4294967296 * VL l) % 4294967296 = d := by omega
    have e2 : (d + 4294967296 * VL l) / 4294967296 = VL l := by omega
    rw [e1, e2, ih hl hnl]
theorem lim_length_le {n k : Nat} (h : n < 4294967296 ^ k) : (lim n).length ≤ k := by
  induction k generalizing n with
  | zero => have : n = 0 := by simpa using h
            subst this; rw [lim_zero]; simp
  | succ k ih =>
    by_cases h0 : n = 0
    · subst h0; rw [lim_zero]; simp
    · rw [lim_pos h0, List.length_cons]
      have := ih (n := n / 4294967296) (by rw [Nat.pow_succ] at h; omega)
      omega
theorem lim_lt (n : Nat) : n < 4294967296 ^ (lim n).length := by
  have := L_lt (lim_Dg n)
  rwa [L_dig] at this
theorem lim_ge {n : Nat} (h : n ≠ 0) : 4294967296 ^ ((lim n).length - 1) ≤ n := by
  rcases Nat.lt_or_ge n (4294967296 ^ ((lim n).length - 1)) with h1 | h1
  · have h2 := lim_length_le h1
    have : (lim n).length ≠ 0 := by rw [lim_pos h]; simp
    omega
  · exact h1

theorem L_getD_lt {l : List Nat} {i : Nat} (h : i < l.length) : l.getD i 0 = l[i] := by rw [List.getD_eq_getElem?_getD, List.getElem?_eq_getElem h]; rfl
/-- One limb makes two digits. -/
theorem of_step {l o : List Nat} {i : Nat} (h : V o = VL (l.take i)) (ho : o.length = 2 * i) (hi : i < l.length) : V (o ++ [l[i] % 65536, l[i] / 65536]) = VL (l.take (i + 1)) := by
  rw [V_append, h, ho, L_take_succ hi, V_cons, V_cons, V_nil]
  have e : l[i] % 65536 + 65536 * (l[i] / 65536 + 65536 * 0) = l[i] := by omega
  rw [e, Nat.pow_mul]
theorem of_Dg {o : List Nat} (h : Dg o) {x : Nat} (hx : x < 4294967296) : Dg (o ++ [x % 65536, x / 65536]) := fun y hy => by
  rcases List.mem_append.1 hy with hy | hy
  · exact h y hy
  · simp only [List.mem_cons, List.not_mem_nil, or_false] at hy
    rcases hy with rfl | rfl <;> omega
/-- Two digits make one limb. -/
theorem limbs_step {a o : List Nat} {j : Nat} (h : VL o = V (a.take (2 * j))) (ho : o.length = j) : VL (o ++ [a.getD (2 * j) 0 + a.getD (2 * j + 1) 0 * 65536]) = V (a.take (2 * (j + 1))) := by
  rw [L_snoc, h, ho, show 2 * (j + 1) = 2 * j + 1 + 1 by omega, V_take_succ', V_take_succ', Nat.pow_succ, Nat.mul_add, Nat.pow_mul, Nat.add_assoc]
  congr 2
  show 4294967296 ^ j * _ = _
  rw [Nat.mul_comm (a.getD (2 * j + 1) 0), ← Nat.mul_assoc]
/-- The limbs of a number are those of its digits, two by two. -/
theorem limbs_end {n : Nat} {o : List Nat} (h : VL o = V ((dig n).take (2 * o.length))) (hl : (dig n).length ≤ 2 * o.length) (hl2 : 2 * o.length < (dig n).length + 2) (hg : Lg o) : o = lim n := by
  rw [List.take_of_length_le hl, V_dig] at h
  have hn : NoLeadL o := fun hne => by
    intro e
    have hpos : 0 < o.length := List.length_pos_iff.2 hne
    rw [List.getLast_eq_getElem] at e
    have h1 := L_take_succ (l := o) (m := o.length - 1) (by omega)
    rw [e, show o.length - 1 + 1 = o.length by omega, List.take_of_length_le (Nat.le_refl _), h] at h1
    have h2 := L_lt (hg.take (o.length - 1))
    rw [List.length_take, Nat.min_eq_left (by omega)] at h2
    have h0 : n ≠ 0 := by
      intro e0
      subst e0
      rw [dig_zero] at hl2
      simp at hl2
      omega
    have h3 := dig_ge h0
    have h4 : 4294967296 ^ (o.length - 1) = 65536 ^ (2 * (o.length - 1)) := by rw [Nat.pow_mul]
    have h5 : 65536 ^ (2 * (o.length - 1)) ≤ 65536 ^ ((dig n).length - 1) := Nat.pow_le_pow_right (by omega) (by omega)
    omega
  rw [← lim_V hg hn, h]
theorem lim_dig_length (n : Nat) : 2 * (lim n).length ≤ (dig n).length + 1 := by
  rcases Nat.eq_zero_or_pos n with rfl | hp
  · rw [lim_zero]; simp
  · have h1 := lim_ge (n := n) (by omega)
    have h2 := dig_lt n
    rcases Nat.lt_or_ge (2 * ((lim n).length - 1)) (dig n).length with h3 | h3
    · omega
    · have h4 : 4294967296 ^ ((lim n).length - 1) = 65536 ^ (2 * ((lim n).length - 1)) := by rw [Nat.pow_mul]
      have h5 : 65536 ^ (dig n).length ≤ 65536 ^ (2 * ((lim n).length - 1)) := Nat.pow_le_pow_right (by omega) h3
      omega

/-- The order of integers. -/
def cmpZ (x y : Int) : Int := if x < y then -1 else if y < x then 1 else 0
/-- An integer out of its sign and its size; 0 may have either sign. -/
def ZI (b : Bool) (n : Nat) : Int := if b then -(n : Int) else n
theorem ZI_neg (b : Bool) (n : Nat) : ZI (!b && decide (0 < n)) n = - ZI b n := by
  cases b <;> unfold ZI <;> simp
  intro h; omega
theorem ZI_same (b : Bool) (m n : Nat) : ZI b (m + n) = ZI b m + ZI b n := by cases b <;> unfold ZI <;> simp <;> omega
theorem ZI_less {a b : Bool} {m n : Nat} (h : a ≠ b) (hle : n ≤ m) : ZI a (m - n) = ZI a m + ZI b n := by cases a <;> cases b <;> unfold ZI <;> simp at h ⊢ <;> omega
theorem ZI_times (a b : Bool) (m n : Nat) : ZI ((a != b) && decide (0 < m * n)) (m * n) = ZI a m * ZI b n := by
  by_cases h : 0 < m * n
  · cases a <;> cases b <;> unfold ZI <;> simp [h, Int.mul_neg, Int.neg_mul]
  · have : m * n = 0 := by omega
    have h2 : (m : Int) * (n : Int) = 0 := by rw [← Int.natCast_mul, this]; rfl
    cases a <;> cases b <;> unfold ZI <;> simp [this, h2, Int.mul_neg, Int.neg_mul]
theorem ZI_abs (b : Bool) (n : Nat) : (ZI b n).natAbs = n := by cases b <;> unfold ZI <;> simp
end Go.Proofs.YtonogeiopicibaaGreatDoor

/- Memory that a call owns: rows, how they are read, cut and cleared. Nothing here speaks of the program. -/
namespace Go.Proofs.YtonogeiopicibaaGreatDoor
open Go.RowKit

theorem maxLen_eq' : maxLen = 9223372036854775807 := by decide

/-- What is owned reads as a row. -/
theorem Row_of_own {w : World} {base : Nat} {e : TypeId} {v : Value} {cs : List Value} (h : w.ownsRow base e 1 v cs.length cs) : Row w v cs := by
  obtain ⟨_, h⟩ := h
  rcases h with ⟨rfl, h0⟩ | ⟨g, cap, cur, rfl, hb, hg, hn, hm, hs, ht⟩
  · exact ⟨none, 0, by rw [h0], by omega, by omega, fun i hi => by omega⟩
  · rw [maxLen_eq'] at hm
    refine ⟨some ⟨g, 0, none⟩, cap, rfl, hn, hm, fun i hi => ⟨g, 0, rfl, ?_⟩⟩
    have : cur.toList.take cs.length = cs := by simpa using ht
    have h1 : cur[i]? = some cs[i] := by
      have h2 : (cur.toList.take cs.length)[i]? = cs[i]? := by rw [this]
      rw [List.getElem?_take, if_pos hi] at h2
      simpa [hi] using h2
    simp [World.cell?, hg, h1]

theorem Ints_of_own {w : World} {base : Nat} {e : TypeId} {v : Value} {l : List Int} (h : w.ownsRow base e 1 v l.length (l.map (Value.int .i64))) : Ints w v l := by
  have h' : w.ownsRow base e 1 v (l.map (Value.int .i64)).length (l.map (Value.int .i64)) := by simpa using h
  obtain ⟨a, cap, rfl, hl, hm, hc⟩ := Row_of_own h'
  refine ⟨a, cap, by simp, by simpa using hl, hm, fun i hi => ?_⟩
  obtain ⟨b, off, rfl, hcell⟩ := hc i (by simpa using hi)
  exact ⟨b, off, rfl, by simpa using hcell⟩

/-- A reading stays while another block is written. -/
theorem RowOf.grown {α : Type} {f : α → Value} {w w' : World} {v : Value} {l : List α} {row : Option Nat} (h : RowOf f w v l) (hg : w.grownBy w' row) (hne : v.ownBlock ≠ row ∨ row = none) : RowOf f w' v l := by
  obtain ⟨a, cap, rfl, hl, hm, hc⟩ := h
  refine ⟨a, cap, rfl, hl, hm, fun i hi => ?_⟩
  obtain ⟨b, off, rfl, hcell⟩ := hc i hi
  refine ⟨b, off, rfl, hg.cell hcell ?_⟩
  rcases hne with h | h
  · simpa [Value.ownBlock] using h
  · rw [h]; simp

theorem grown_refl (w : World) (row : Option Nat) : w.grownBy w row := ⟨rfl, rfl, rfl, Nat.le_refl _, fun _ _ _ => rfl⟩
theorem grown_trans {w w1 w2 : World} {row : Option Nat} (h1 : w.grownBy w1 row) (h2 : w1.grownBy w2 row) : w.grownBy w2 row :=
  ⟨h2.os.trans h1.os, h2.tape.trans h1.tape, h2.output.trans h1.output, Nat.le_trans h1.size h2.size, fun k hk hne => (h2.block k (Nat.lt_of_lt_of_le hk h1.size) hne).trans (h1.block k hk hne)⟩
theorem grown_of_below {w w1 : World} (h : Below w.heap.size w w1) (row : Option Nat) : w.grownBy w1 row :=
  ⟨h.os, h.tape, h.output, h.size, fun k hk _ => h.block k hk⟩
/-- A block beyond w's own may have been written: for w nothing turned. -/
theorem grown_new {w w1 w2 : World} {row row' : Option Nat} (h1 : w.grownBy w1 row) (h2 : w1.grownBy w2 row') (hn : ∀ k, row' = some k → w.heap.size ≤ k ∨ row = some k) : w.grownBy w2 row :=
  ⟨h2.os.trans h1.os, h2.tape.trans h1.tape, h2.output.trans h1.output, Nat.le_trans h1.size h2.size, fun k hk hne => by
    refine (h2.block k (Nat.lt_of_lt_of_le hk h1.size) (fun e => ?_)).trans (h1.block k hk hne)
    rcases hn k e.symm with h | h
    · omega
    · exact hne h.symm⟩
theorem below_of_grown {w w1 : World} {row : Option Nat} {B : Nat} (h : w.grownBy w1 row) (hB : B ≤ w.heap.size) (hr : ∀ k, row = some k → B ≤ k) : Below B w w1 :=
  (Below.refl B w).grown h hB hr

theorem own_shrink {w : World} {base : Nat} {e : TypeId} {g n cap : Nat} {xs : List Value} (h : w.ownsRow base e 1 (.slice (some ⟨g, 0, none⟩) n cap) n xs) {i : Nat} (hi : i ≤ n) :
    w.ownsRow base e 1 (.slice (some ⟨g, 0, none⟩) i cap) i (xs.take i) := by
  obtain ⟨hl, h⟩ := h
  rcases h with ⟨h', _⟩ | ⟨g', cap', cur, h', hb, hg, hn, hm, hs, ht⟩
  · simp at h'
  · simp only [Value.slice.injEq, Option.some.injEq, Addr.mk.injEq, and_true, true_and] at h'
    obtain ⟨rfl, rfl⟩ := h'
    refine ⟨by simp; omega, .inr ⟨g, cap, cur, rfl, hb, hg, by omega, hm, hs, ?_⟩⟩
    rw [← ht, List.take_take]; congr 1; omega

theorem own_setCells {base : Nat} {e : TypeId} {g i cap : Nat} {xs : List Value} : ∀ (vs : List Value) (o : Nat) (w : World), w.ownsRow base e 1 (.slice (some ⟨g, 0, none⟩) i cap) i xs → i ≤ o →
    (w.setCells g o vs).ownsRow base e 1 (.slice (some ⟨g, 0, none⟩) i cap) i xs ∧ w.grownBy (w.setCells g o vs) (some g)
  | [], o, w, h, _ => ⟨h, grown_refl _ _⟩
  | v :: vs, o, w, h, ho => by
    have h1 := h.stored o v
    have hx : xs.set o v = xs := List.set_eq_of_length_le (by have := h.1; omega)
    rw [hx] at h1
    have h2 := own_setCells vs (o + 1) _ h1.1 (by omega)
    exact ⟨h2.1, grown_trans h1.2 h2.2⟩

theorem own_isSlice {w : World} {b : Nat} {e : TypeId} {z : Nat} {v : Value} {n : Nat} {xs : List Value} (h : w.ownsRow b e z v n xs) : ∃ a c, v = .slice a n c := by
  rcases h.2 with ⟨rfl, rfl⟩ | ⟨g, cap, cur, rfl, _⟩
  · exact ⟨_, _, rfl⟩
  · exact ⟨_, _, rfl⟩

theorem own_form {w : World} {b : Nat} {e : TypeId} {z : Nat} {v : Value} {n : Nat} {xs : List Value} (h : w.ownsRow b e z v n xs) (h0 : 0 < n) : ∃ g c, v = .slice (some ⟨g, 0, none⟩) n c ∧ b ≤ g := by
  rcases h.2 with ⟨_, rfl⟩ | ⟨g, cap, cur, rfl, hb, _⟩
  · omega
  · exact ⟨_, _, rfl, hb⟩

theorem own_apart {w : World} {b b' : Nat} {e e' : TypeId} {z z' : Nat} {v v' : Value} {n n' : Nat} {xs xs' : List Value} (h : w.ownsRow b e z v n xs) (h' : w.ownsRow b' e' z' v' n' xs') (hne : e ≠ e') :
    v.ownBlock = none ∨ v.ownBlock ≠ v'.ownBlock := by
  rcases h.2 with ⟨rfl, _⟩ | ⟨g, cap, cur, rfl, _, hg, _⟩
  · exact .inl rfl
  · rcases h'.2 with ⟨rfl, _⟩ | ⟨g', cap', cur', rfl, _, hg', _⟩
    · exact .inr (by simp [Value.ownBlock])
    · refine .inr (fun hh => ?_)
      simp only [Value.ownBlock, Option.some.injEq] at hh
      subst hh
      rw [hg] at hg'
      simp at hg'
      exact hne hg'.2

theorem two_kept {W w' : World} {N N' : Nat} {e1 e2 : TypeId} {vL vH : Value} {n m : Nat} {xs ys : List Value} (hL : W.ownsRow N e1 1 vL n xs) (hH : W.ownsRow N' e2 1 vH m ys) (hne : e1 ≠ e2) (hgr : W.grownBy w' vH.ownBlock) :
    w'.ownsRow N e1 1 vL n xs := hL.kept hgr (own_apart hL hH hne)

theorem own_drew {w : World} {b : Nat} {e : TypeId} {z : Nat} {v : Value} {n : Nat} {xs : List Value} (h : w.ownsRow b e z v n xs) : w.drew.ownsRow b e z v n xs := h

theorem own_base {w : World} {b b' : Nat} {e : TypeId} {z : Nat} {v : Value} {n : Nat} {xs : List Value} (h : w.ownsRow b e z v n xs) (hb : b' ≤ b) : w.ownsRow b' e z v n xs := by
  refine ⟨h.1, ?_⟩
  rcases h.2 with ⟨rfl, h0⟩ | ⟨g, cap, cur, rfl, hg, h1⟩
  · exact .inl ⟨rfl, h0⟩
  · exact .inr ⟨g, cap, cur, rfl, Nat.le_trans hb hg, h1⟩

/-- Kept while a row of a later base is written. -/
theorem own_later {w w' : World} {b b' : Nat} {e e' : TypeId} {z z' : Nat} {v v' : Value} {n n' : Nat} {xs xs' : List Value} (h : w.ownsRow b e z v n xs) (h' : w.ownsRow b' e' z' v' n' xs') (hlt : ∀ k, v.ownBlock = some k → k < b') (hg : w.grownBy w' v'.ownBlock) : w'.ownsRow b e z v n xs := by
  refine h.kept hg ?_
  cases h0 : v.ownBlock with
  | none => exact .inl rfl
  | some k => exact .inr fun hh => by have := (h'.lt k hh.symm).1; have := hlt k h0; omega

theorem own_cast {w : World} {b : Nat} {e : TypeId} {z : Nat} {v : Value} {n n' : Nat} {xs xs' : List Value} (h : w.ownsRow b e z v n xs) (hn : n = n') (hx : xs = xs') : w.ownsRow b e z v n' xs' := by subst hn; subst hx; exact h

theorem own_below {w w' : World} {b : Nat} {e : TypeId} {z : Nat} {v : Value} {n : Nat} {xs : List Value} (h : w.ownsRow b e z v n xs) (hb : Below w.heap.size w w') : w'.ownsRow b e z v n xs :=
  h.kept (grown_of_below hb none) (by cases h0 : v.ownBlock <;> simp)

theorem RowOf.isSlice {α : Type} {f : α → Value} {w : World} {v : Value} {l : List α} (h : RowOf f w v l) : ∃ a n c, v = .slice a n c := by
  obtain ⟨a, cap, rfl, _⟩ := h; exact ⟨_, _, _, rfl⟩

theorem ownBlock_old {α : Type} {f : α → Value} {w : World} {v : Value} {l : List α} (h : RowOf f w v l) (hne : 0 < l.length) : ∀ k, v.ownBlock = some k → k < w.heap.size := by
  obtain ⟨a, cap, rfl, _, _, hc⟩ := h
  obtain ⟨b, off, rfl, hcell⟩ := hc 0 hne
  intro k hk
  simp [Value.ownBlock] at hk
  subst hk
  exact World.block_lt_of_cell? _ _ hcell

theorem firstFrom_spec (p : Nat → Bool) (n k : Nat) : (firstFrom p n k = -1 ∧ ∀ i, k ≤ i → i < n → p i = false) ∨ ∃ i, k ≤ i ∧ i < n ∧ firstFrom p n k = i ∧ p i = true ∧ ∀ j, k ≤ j → j < i → p j = false := by
  induction hd : n - k generalizing k with
  | zero => exact .inl ⟨firstFrom_end (by omega), fun i h1 h2 => by omega⟩
  | succ d ih =>
    by_cases hp : p k = true
    · exact .inr ⟨k, Nat.le_refl _, by omega, firstFrom_yes (by omega) hp, hp, fun j h1 h2 => by omega⟩
    · have hp' : p k = false := by simpa using hp
      rw [firstFrom_no (by omega) hp']
      rcases ih (k + 1) (by omega) with ⟨h1, h2⟩ | ⟨i, h1, h2, h3, h4, h5⟩
      · exact .inl ⟨h1, fun i hi hn => by
          by_cases e : i = k
          · subst e; exact hp'
          · exact h2 i (by omega) hn⟩
      · exact .inr ⟨i, by omega, h2, h3, h4, fun j hj hji => by
          by_cases e : j = k
          · subst e; exact hp'
          · exact h5 j (by omega) hji⟩
end Go.Proofs.YtonogeiopicibaaGreatDoor

/- Walks: trim, Small, Compare (brindlewoodref3). -/
namespace Go.Proofs.YtonogeiopicibaaGreatDoor
open Go.RowKit

/-- A row of digits. -/
abbrev RowN (w : World) (v : Value) (l : List Nat) : Prop := RowOf (fun d : Nat => Value.int .i64 (d : Int)) w v l
/-- A natural number of the document. -/
def NatAt (w : World) (v : Value) (n : Nat) : Prop := RowN w v (dig n)
theorem NatAt.below {w w' : World} {v : Value} {n : Nat} (h : NatAt w v n) (hb : Below w.heap.size w w') : NatAt w' v n := by unfold NatAt at h ⊢; exact RowOf.below h hb
theorem NatAt.nil (w : World) : NatAt w (.slice none 0 0) 0 := by unfold NatAt; rw [dig_zero]; exact RowOf.nil _ _

theorem infoI : (Tryz.prog.info? 3).map (fun i => (i.zero, i.size, i.bytes)) = some (some (.int .i64 0), 1, 8) := by kernel_rfl

theorem tmod_nat (x b : Nat) : Int.tmod (x : Int) (b : Int) = ((x % b : Nat) : Int) := (Int.ofNat_tmod x b).symm
theorem tdiv_nat (x b : Nat) : Int.tdiv (x : Int) (b : Int) = ((x / b : Nat) : Int) := (Int.ofNat_tdiv x b).symm

/-- 'a[:m]' of a row that begins somewhere. -/
theorem cut_end {t e : TypeId} (ht : Tryz.prog.underlying t = some (.slice e)) (hsz : ∀ W, (sizeOf e).run Tryz.prog W = .ok 1 W) (b off n m c : Nat) (h1 : m ≤ n) (h2 : n ≤ c) :
    ∀ W, (Instr.slice t (.slice (some ⟨b, off, none⟩) n c) none (some (.int .i64 m)) none).run Tryz.prog W = .ok (.slice (some ⟨b, off, none⟩) m c) W := by
  intro W
  have he : Tryz.prog.elem t = e := by simp [Program.elem, ht]
  have ht' : Tryz.prog.underlying t = some (.slice (Tryz.prog.elem t)) := by rw [he]; exact ht
  have hz : ∀ W, (sizeOf (Tryz.prog.elem t)).run Tryz.prog W = .ok 1 W := by intro W; rw [he]; exact hsz W
  rw [run_slice_h W t _ n c ht' _ _ (by omega) (by omega), hz]
  simp only [Result.andThen, sliced]
  by_cases hc : c = 0
  · simp [hc]
  · simp [hc, Addr.add]

theorem trim_any (v : Value) (l : List Nat) (w : World) (hv : RowN w v l) (hd : Dg l) :
    Calls Tryz.prog 124 #[v] w fun e w' => ∃ v', e = .returned v' ∧ NatAt w v' (V l) ∧ w = w' := by
  obtain ⟨a, c, rfl, hl, hm, hc⟩ := hv
  have HC := Lib.hid hc
  have HD := Lib.hid hd
  clear hc hd
  go_enter Tryz.func124, Tryz.ntmps124
  go_wp2
  go_loopg [0] l.length (fun q s0 wr => ∃ m : Nat, m ≤ l.length ∧ m ≤ q ∧ s0 = .slice a m c ∧ Hid (V (l.take m) = V l) ∧ wr = w)
  case atStart => exact ⟨l.length, Nat.le_refl _, Nat.le_refl _, rfl, by unfold Hid; rw [List.take_of_length_le (Nat.le_refl _)], rfl⟩
  case round =>
    obtain ⟨m, hml, hq, rfl, hV, rfl⟩ := hrel
    cases m with
    | zero =>
      go_wp2
      go_ret
      have h0 : V l = 0 := by rw [← hV.out]; rfl
      refine ⟨_, rfl, ?_, rfl⟩
      unfold NatAt
      rw [h0, dig_zero]
      exact ⟨a, c, rfl, by simp, hm, fun i h => by simp at h⟩
    | succ m =>
      obtain ⟨b, off, rfl, hcell⟩ := HC.out m (by omega)
      have i1 : (((m + 1 : Nat) : Int)) > 0 := by omega
      have i2 : (((m + 1 : Nat) : Int)) - 1 = (m : Int) := by omega
      have HN := HC.out
      by_cases h0 : l[m] = 0
      · have HV2 := Lib.hid ((trim_step (by omega) h0).symm.trans hV.out)
        rw [h0] at hcell
        have hsl := cut_end Tryz.underlying127 (by intro W; have := infoI; obtain ⟨i0, hi, -, hs, -⟩ := info_parts infoI; simp [sizeOf, typeInfo, hi, hs]) b off (m + 1) m c (by omega) (by omega)
        clear h0 HN
        go_wp2
        go_roundg m
        case measure => omega
        case rel => exact ⟨m, by omega, Nat.le_refl _, rfl, HV2, rfl⟩
      · have hfin : NatAt wr (.slice (some ⟨b, off, none⟩) (m + 1) c) (V l) := by
          unfold NatAt
          rw [← hV.out, trim_end HD.out hml (fun _ => h0)]
          refine ⟨some ⟨b, off, none⟩, c, by simp; omega, by simp; omega, hm, fun i hi => ?_⟩
          obtain ⟨b', off', e, h1⟩ := HN i (by simp at hi; omega)
          exact ⟨b', off', e, by rw [h1, List.getElem_take]⟩
        have HF := Lib.hid hfin
        have b0 : (((l[m] : Nat) : Int) == 0) = false := by simpa using h0
        clear h0 hfin HN
        generalize l[m] = x at *
        go_wp2
        go_ret
        exact ⟨_, rfl, HF.out, rfl⟩
end Go.Proofs.YtonogeiopicibaaGreatDoor

/- Walks: Small, Plus, Minus (brindlewoodref3). -/
namespace Go.Proofs.YtonogeiopicibaaGreatDoor
open Go.RowKit

def cellN (d : Nat) : Value := .int .i64 (d : Int)
theorem rowN_own {w : World} {base : Nat} {e : TypeId} {v : Value} {l : List Nat} (h : w.ownsRow base e 1 v l.length (l.map cellN)) : RowN w v l := by
  have h' : w.ownsRow base e 1 v (l.map cellN).length (l.map cellN) := by simpa using h
  obtain ⟨a, cap, rfl, hl, hm, hc⟩ := Row_of_own h'
  refine ⟨a, cap, by simp, by simpa using hl, hm, fun i hi => ?_⟩
  obtain ⟨b, off, rfl, hcell⟩ := hc i (by simpa using hi)
  exact ⟨b, off, rfl, by simpa [cellN] using hcell⟩
theorem own_snoc {w : World} {base : Nat} {e : TypeId} {v : Value} {o : List Nat} {x : Nat} {n : Nat} {y : Int} (h : w.ownsRow base e 1 v n (o.map cellN ++ [.int .i64 y])) (hn : n = o.length + 1) (hy : y = (x : Int)) : w.ownsRow base e 1 v (o ++ [x]).length ((o ++ [x]).map cellN) :=
  own_cast h (by simp [hn]) (by simp [cellN, hy])

set_option maxRecDepth 100000 in
set_option maxHeartbeats 1000000 in
theorem Small_any (n : Int) (w : World) (hn : n ≤ 9223372036854775807) :
    Calls Tryz.prog 106 #[.int .i64 n] w fun e w' => ∃ v', e = .returned v' ∧ NatAt w' v' n.toNat ∧ Below w.heap.size w w' := by
  have hN4 : (dig n.toNat).length ≤ 4 := dig_length_le (by omega)
  have HN4 := Lib.hid hN4
  obtain ⟨i0, hii, hz0, hz1, hz2⟩ := info_parts infoI
  clear hN4
  go_enter Tryz.func106, Tryz.ntmps106
  go_wp2
  go_loopg [0, 3] n.toNat (fun q s0 s3 wr => ∃ (s : Int) (o : List Nat), s0 = .int .i64 s ∧ s ≤ n ∧ s.toNat ≤ q ∧ wr.ownsRow w.heap.size 3 1 s3 o.length (o.map cellN) ∧ Hid (dig n.toNat = o ++ dig s.toNat) ∧ Below w.heap.size w wr)
  case atStart => exact ⟨n, [], rfl, Int.le_refl _, Nat.le_refl _, World.ownsRow_nil _ _ _ _, rfl, Below.refl _ _⟩
  case round =>
      obtain ⟨s, o, rfl, hsn, hq, hown, hd, hb⟩ := hrel
      by_cases hs : s ≤ 0
      · have e0 : s.toNat = 0 := by omega
        have HF := Lib.hid (show NatAt wr u3 n.toNat by unfold NatAt; rw [hd.out, e0, dig_zero, List.append_nil]; exact rowN_own hown)
        have i1 : ¬ (s > 0) := by omega
        clear e0 hs
        go_wp2
        go_ret
        exact ⟨_, rfl, HF.out, hb⟩
      · obtain ⟨r, rfl⟩ : ∃ r : Nat, s = (r : Int) := ⟨s.toNat, by omega⟩
        rw [Int.toNat_natCast] at hd hq
        have hr : r ≠ 0 := by omega
        clear hs
        have T1 := Lib.hid (tmod_nat r 65536)
        have T2 := Lib.hid (tdiv_nat r 65536)
        have hlen : o.length + 1 ≤ 4 := by
          have h1 := HN4.out
          rw [hd.out, dig_pos hr, List.length_append, List.length_cons] at h1
          omega
        have HD2 := Lib.hid (show dig n.toNat = (o ++ [r % 65536]) ++ dig (r / 65536) by rw [hd.out, dig_pos hr]; simp)
        have i1 : ((r : Int) > 0) := by omega
        have hlt : r / 65536 < r := by omega
        clear hr hd
        go_wp2_with (at_builtin; refine wpList_append_own _ rfl _ _ 127 rfl w.heap.size 3 i0 (.int .i64 0) 1 8 Tryz.underlying127 hii hz0 hz1 hz2 rfl (by decide) _ _ _ rfl (hown.alloc _) ⟨wr.heap.size, 0, none⟩ 1 1 [.int .i64 ((r : Int).tmod 65536)] rfl rfl ?c1a ?c2a ?c3a ?c4a ?c5a ?_)
        try (case c1a => exact cell_one_new _ _ _)
        try (case c2a => simp [Value.oneCell'])
        case c3a => rw [maxLen_eq']; omega
        case c4a => omega
        case c5a => have := hb.size; simp; omega
        intro v' w2 hown2 hgr2 _
        have hb2 : Below w.heap.size w w2 := (hb.alloc hb.size _).grown hgr2 (by have := hb.size; simp; omega) (fun q hq => (hown.lt q hq).1)
        have hown3 := own_snoc (x := r % 65536) hown2 rfl T1.out
        clear hown hown2 hgr2
        go_wp2
        go_roundg (r / 65536)
        case measure => omega
        case rel => exact ⟨((r / 65536 : Nat) : Int), _, by rw [← T2.out]; rfl, by omega, by rw [Int.toNat_natCast]; exact Nat.le_refl _, hown3, by rw [Int.toNat_natCast]; exact HD2, hb2⟩
end Go.Proofs.YtonogeiopicibaaGreatDoor

/- Walks: Plus, Minus (brindlewoodref3). -/
namespace Go.Proofs.YtonogeiopicibaaGreatDoor
open Go.RowKit

set_option maxRecDepth 100000 in
set_option maxHeartbeats 2000000 in
theorem PlusL_any (av bv : Value) (la lb : List Nat) (w : World) (ha : RowN w av la) (hb : RowN w bv lb) (da : Dg la) (db : Dg lb) (na : la.length ≤ 1000000) (nb : lb.length ≤ 1000000) :
    Calls Tryz.prog 122 #[av, bv] w fun e w' => ∃ v', e = .returned v' ∧ NatAt w' v' (V la + V lb) ∧ Below w.heap.size w w' := by
  have HA := Lib.hid ha
  have HB := Lib.hid hb
  have DA := Lib.hid da
  have DB := Lib.hid db
  obtain ⟨aa, ac, rfl, -⟩ := ha
  obtain ⟨ba, bc, rfl, -⟩ := hb
  obtain ⟨i0, hii, hz0, hz1, hz2⟩ := info_parts infoI
  clear da db
  go_enter Tryz.func122, Tryz.ntmps122
  go_wp2
  go_loopg [5, 6, 7] (2 * (la.length + lb.length + 1)) (fun q s5 s6 s7 wr => ∃ (k c : Nat) (o : List Nat), s7 = .int .i64 k ∧ s6 = .int .i64 c ∧ c ≤ 1 ∧ 2 * (la.length + lb.length + 1 - k) + c ≤ q ∧ wr.ownsRow w.heap.size 3 1 s5 o.length (o.map cellN) ∧ o.length = k ∧
    Hid (V o + c * 65536 ^ k = V (la.take k) + V (lb.take k)) ∧ Hid (Dg o) ∧ Below w.heap.size w wr)
  case atStart => exact ⟨0, 0, [], rfl, rfl, by omega, by omega, World.ownsRow_nil _ _ _ _, rfl, rfl, Dg.nil, Below.refl _ _⟩
  case round =>
    obtain ⟨k, c, o, rfl, rfl, hc1, hq, hown, hol, hV, hD, hb⟩ := hrel
    have HOL := Lib.hid hol
    have hkin : 0 < c → k ≤ la.length + lb.length := plus_in DA.out DB.out hV.out
    by_cases hA : k < la.length
    · have i1 : ((k : Int) < (la.length : Int)) := by omega
      obtain ⟨a', c', he, _, _, hc⟩ := HA.out.below hb
      simp only [Value.slice.injEq, true_and] at he
      obtain ⟨rfl, rfl⟩ := he
      obtain ⟨b1, o1, rfl, z1⟩ := hc k hA
      have hp := DA.out.at hA
      have HP := Lib.hid (getD_lt hA)
      clear hc
      generalize la[k] = p at *
      by_cases hB : k < lb.length
      · have i2 : ((k : Int) < (lb.length : Int)) := by omega
        obtain ⟨a', c', he, _, _, hc⟩ := HB.out.below hb
        simp only [Value.slice.injEq, true_and] at he
        obtain ⟨rfl, rfl⟩ := he
        obtain ⟨b2, o2, rfl, z2⟩ := hc k hB
        have hr := DB.out.at hB
        have HR := Lib.hid (getD_lt hB)
        clear hc
        generalize lb[k] = r at *
        have hx : (((c : Int) + (p : Int)) + (r : Int)) = ((c + p + r : Nat) : Int) := by omega
        have T1 := Lib.hid (show (((c : Int) + (p : Int)) + (r : Int)) % 65536 = (((c + p + r) % 65536 : Nat) : Int) by rw [hx]; rfl)
        have T2 := Lib.hid (show (((c : Int) + (p : Int)) + (r : Int)) / 65536 = (((c + p + r) / 65536 : Nat) : Int) by rw [hx]; rfl)
        have HS := Lib.hid (plus_step (la := la) (lb := lb) (o := o) (x := c + p + r) hV.out hol (by rw [HP.out, HR.out]))
        have HD2 := Lib.hid (hD.out.snoc (d := (c + p + r) % 65536) (Nat.mod_lt _ (by omega)))
        have hx2 : (c + p + r) / 65536 ≤ 1 := by omega
        have hkl : k ≤ la.length + lb.length := by omega
        have hol2 : o.length ≤ la.length + lb.length := by omega
        clear hx hkin hol
        go_wp2_with (at_builtin; refine wpList_append_own _ rfl _ _ 127 rfl w.heap.size 3 i0 (.int .i64 0) 1 8 Tryz.underlying127 hii hz0 hz1 hz2 rfl (by decide) _ _ _ rfl (hown.alloc _) ⟨wr.heap.size, 0, none⟩ 1 1 [.int .i64 ((((c : Int) + (p : Int)) + (r : Int)) % 65536)] rfl rfl ?c1b11 ?c2b11 ?c3b11 ?c4b11 ?c5b11 ?_)
        try (case c1b11 => exact cell_one_new _ _ _)
        try (case c2b11 => simp [Value.oneCell'])
        case c3b11 => rw [maxLen_eq']; omega
        case c4b11 => omega
        case c5b11 => have := hb.size; simp; omega
        intro v' w2 hown2 hgr2 _
        have hb2 : Below w.heap.size w w2 := (hb.alloc hb.size _).grown hgr2 (by have := hb.size; simp; omega) (fun q hq => (hown.lt q hq).1)
        have hown3 := own_snoc (x := (c + p + r) % 65536) hown2 rfl T1.out
        clear hown hown2 hgr2
        go_wp2
        go_roundg (2 * (la.length + lb.length + 1 - (k + 1)) + (c + p + r) / 65536)
        case measure => omega
        case rel => exact ⟨k + 1, (c + p + r) / 65536, _, by go_num, by rw [← T2.out], hx2, Nat.le_refl _, hown3, by simp [HOL.out], HS, HD2, hb2⟩
      · have i2 : ¬ ((k : Int) < (lb.length : Int)) := by omega
        have HR := Lib.hid (getD_ge (l := lb) (i := k) (by omega))
        have hx : ((c : Int) + (p : Int)) = ((c + p + 0 : Nat) : Int) := by omega
        have T1 := Lib.hid (show ((c : Int) + (p : Int)) % 65536 = (((c + p + 0) % 65536 : Nat) : Int) by rw [hx]; rfl)
        have T2 := Lib.hid (show ((c : Int) + (p : Int)) / 65536 = (((c + p + 0) / 65536 : Nat) : Int) by rw [hx]; rfl)
        have HS := Lib.hid (plus_step (la := la) (lb := lb) (o := o) (x := c + p + 0) hV.out hol (by rw [HP.out, HR.out]))
        have HD2 := Lib.hid (hD.out.snoc (d := (c + p + 0) % 65536) (Nat.mod_lt _ (by omega)))
        have hx2 : (c + p + 0) / 65536 ≤ 1 := by omega
        have hkl : k ≤ la.length + lb.length := by omega
        have hol2 : o.length ≤ la.length + lb.length := by omega
        clear hx hkin hol
        go_wp2_with (at_builtin; refine wpList_append_own _ rfl _ _ 127 rfl w.heap.size 3 i0 (.int .i64 0) 1 8 Tryz.underlying127 hii hz0 hz1 hz2 rfl (by decide) _ _ _ rfl (hown.alloc _) ⟨wr.heap.size, 0, none⟩ 1 1 [.int .i64 (((c : Int) + (p : Int)) % 65536)] rfl rfl ?c1b10 ?c2b10 ?c3b10 ?c4b10 ?c5b10 ?_)
        try (case c1b10 => exact cell_one_new _ _ _)
        try (case c2b10 => simp [Value.oneCell'])
        case c3b10 => rw [maxLen_eq']; omega
        case c4b10 => omega
        case c5b10 => have := hb.size; simp; omega
        intro v' w2 hown2 hgr2 _
        have hb2 : Below w.heap.size w w2 := (hb.alloc hb.size _).grown hgr2 (by have := hb.size; simp; omega) (fun q hq => (hown.lt q hq).1)
        have hown3 := own_snoc (x := (c + p + 0) % 65536) hown2 rfl T1.out
        clear hown hown2 hgr2
        go_wp2
        go_roundg (2 * (la.length + lb.length + 1 - (k + 1)) + (c + p + 0) / 65536)
        case measure => omega
        case rel => exact ⟨k + 1, (c + p + 0) / 65536, _, by go_num, by rw [← T2.out], hx2, Nat.le_refl _, hown3, by simp [HOL.out], HS, HD2, hb2⟩
    · have i1 : ¬ ((k : Int) < (la.length : Int)) := by omega
      have HP := Lib.hid (getD_ge (l := la) (i := k) (by omega))
      by_cases hB : k < lb.length
      · have i2 : ((k : Int) < (lb.length : Int)) := by omega
        obtain ⟨a', c', he, _, _, hc⟩ := HB.out.below hb
        simp only [Value.slice.injEq, true_and] at he
        obtain ⟨rfl, rfl⟩ := he
        obtain ⟨b2, o2, rfl, z2⟩ := hc k hB
        have hr := DB.out.at hB
        have HR := Lib.hid (getD_lt hB)
        clear hc
        generalize lb[k] = r at *
        have hx : ((c : Int) + (r : Int)) = ((c + 0 + r : Nat) : Int) := by omega
        have T1 := Lib.hid (show ((c : Int) + (r : Int)) % 65536 = (((c + 0 + r) % 65536 : Nat) : Int) by rw [hx]; rfl)
        have T2 := Lib.hid (show ((c : Int) + (r : Int)) / 65536 = (((c + 0 + r) / 65536 : Nat) : Int) by rw [hx]; rfl)
        have HS := Lib.hid (plus_step (la := la) (lb := lb) (o := o) (x := c + 0 + r) hV.out hol (by rw [HP.out, HR.out]))
        have HD2 := Lib.hid (hD.out.snoc (d := (c + 0 + r) % 65536) (Nat.mod_lt _ (by omega)))
        have hx2 : (c + 0 + r) / 65536 ≤ 1 := by omega
        have hkl : k ≤ la.length + lb.length := by omega
        have hol2 : o.length ≤ la.length + lb.length := by omega
        clear hx hkin hol
        go_wp2_with (at_builtin; refine wpList_append_own _ rfl _ _ 127 rfl w.heap.size 3 i0 (.int .i64 0) 1 8 Tryz.underlying127 hii hz0 hz1 hz2 rfl (by decide) _ _ _ rfl (hown.alloc _) ⟨wr.heap.size, 0, none⟩ 1 1 [.int .i64 (((c : Int) + (r : Int)) % 65536)] rfl rfl ?c1b01 ?c2b01 ?c3b01 ?c4b01 ?c5b01 ?_)
        try (case c1b01 => exact cell_one_new _ _ _)
        try (case c2b01 => simp [Value.oneCell'])
        case c3b01 => rw [maxLen_eq']; omega
        case c4b01 => omega
        case c5b01 => have := hb.size; simp; omega
        intro v' w2 hown2 hgr2 _
        have hb2 : Below w.heap.size w w2 := (hb.alloc hb.size _).grown hgr2 (by have := hb.size; simp; omega) (fun q hq => (hown.lt q hq).1)
        have hown3 := own_snoc (x := (c + 0 + r) % 65536) hown2 rfl T1.out
        clear hown hown2 hgr2
        go_wp2
        go_roundg (2 * (la.length + lb.length + 1 - (k + 1)) + (c + 0 + r) / 65536)
        case measure => omega
        case rel => exact ⟨k + 1, (c + 0 + r) / 65536, _, by go_num, by rw [← T2.out], hx2, Nat.le_refl _, hown3, by simp [HOL.out], HS, HD2, hb2⟩
      · have i2 : ¬ ((k : Int) < (lb.length : Int)) := by omega
        have HR := Lib.hid (getD_ge (l := lb) (i := k) (by omega))
        by_cases hc0 : c = 0
        · subst hc0
          have hdone := plus_done hV.out (by omega) (by omega)
          have hT := trim_any u5 o wr (rowN_own hown) hD.out
          rw [hdone] at hT
          have HT := Lib.hid hT
          clear hT hdone hV hkin
          go_wp2_with (go_at_call 124; refine HT.out.mono ?_; rintro e w3 ⟨v', rfl, hN, rfl⟩)
          go_ret
          exact ⟨_, rfl, hN, hb⟩
        · have i3 : ((c : Int) > 0) := by omega
          have hkk := hkin (by omega)
          clear hc0
          have hx : (c : Int) = ((c + 0 + 0 : Nat) : Int) := by omega
          have T1 := Lib.hid (show (c : Int) % 65536 = (((c + 0 + 0) % 65536 : Nat) : Int) by rw [hx]; rfl)
          have T2 := Lib.hid (show (c : Int) / 65536 = (((c + 0 + 0) / 65536 : Nat) : Int) by rw [hx]; rfl)
          have HS := Lib.hid (plus_step (la := la) (lb := lb) (o := o) (x := c + 0 + 0) hV.out hol (by rw [HP.out, HR.out]))
          have HD2 := Lib.hid (hD.out.snoc (d := (c + 0 + 0) % 65536) (Nat.mod_lt _ (by omega)))
          have hx2 : (c + 0 + 0) / 65536 ≤ 1 := by omega
          have hkl : k ≤ la.length + lb.length := by omega
          have hol2 : o.length ≤ la.length + lb.length := by omega
          clear hx hkin hol
          go_wp2_with (at_builtin; refine wpList_append_own _ rfl _ _ 127 rfl w.heap.size 3 i0 (.int .i64 0) 1 8 Tryz.underlying127 hii hz0 hz1 hz2 rfl (by decide) _ _ _ rfl (hown.alloc _) ⟨wr.heap.size, 0, none⟩ 1 1 [.int .i64 ((c : Int) % 65536)] rfl rfl ?c1b00 ?c2b00 ?c3b00 ?c4b00 ?c5b00 ?_)
          try (case c1b00 => exact cell_one_new _ _ _)
          try (case c2b00 => simp [Value.oneCell'])
          case c3b00 => rw [maxLen_eq']; omega
          case c4b00 => omega
          case c5b00 => have := hb.size; simp; omega
          intro v' w2 hown2 hgr2 _
          have hb2 : Below w.heap.size w w2 := (hb.alloc hb.size _).grown hgr2 (by have := hb.size; simp; omega) (fun q hq => (hown.lt q hq).1)
          have hown3 := own_snoc (x := (c + 0 + 0) % 65536) hown2 rfl T1.out
          clear hown hown2 hgr2
          go_wp2
          go_roundg (2 * (la.length + lb.length + 1 - (k + 1)) + (c + 0 + 0) / 65536)
          case measure => omega
          case rel => exact ⟨k + 1, (c + 0 + 0) / 65536, _, by go_num, by rw [← T2.out], hx2, Nat.le_refl _, hown3, by simp [HOL.out], HS, HD2, hb2⟩
end Go.Proofs.YtonogeiopicibaaGreatDoor
