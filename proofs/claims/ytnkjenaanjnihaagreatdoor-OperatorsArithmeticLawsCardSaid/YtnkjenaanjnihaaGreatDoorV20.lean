/- OperatorsArithmeticLaws: the given statement. No condition on the arguments; the listed variables start as the program's text lays them. -/
import Derived.Test.YtnkjenaanjnihaaGreatDoorV15
import Derived.Test.YtnkjenaanjnihaaGreatDoorV13
import Derived.Test.YtnkjenaanjnihaaGreatDoorV18
import Derived.Test.YtnkjenaanjnihaaGreatDoorV19
import Derived.Test.YtnkjenaanjnihaaGreatDoorRows
import Derived.ProofKit
import Derived.OpenShut
import Derived.ShutString
import Derived.Deep.Slices
import Derived.Test.YtnkjenaanjnihaaGreatDoorV12
import Derived.Deep.Matrix
import Derived.ChangeOld
import Derived.Below
import Derived.SizedLaws
import Derived.Test.YtnkjenaanjnihaaGreatDoorCards
import Derived.Test.YtnkjenaanjnihaaGreatDoorTie
import Derived.Lib.LaidU8T
import Derived.Deep.DeepHandedRow
import Derived.Deep.DeepWitnessRowRef
import Derived.Lib.LaidTab
import Derived.Shelf.Vars


/- Walks by the evaluator: IntOk, RatioOk, ValueOk of numbers of any size. -/
namespace Go.Proofs.YtnkjenaanjnihaaGreatDoor
open Go.RowKit
variable {md me : Bool}
theorem IntOkW_ok (b : Bool) (l : List Nat) : Fn Tryz.prog 16 [.agg [.v (.bool b), usD l]] (.v (.bool (intOk b l))) := by
  refine fn_ev tabT Tryz.func16 rfl rfl rfl rfl rfl rfl ?_
  intro w0 s0 mx
  refine ev_R tabT [] 100 ?_
  refine ev_R tabT [] 200 ?_
  refine ev_R tabT [] 300 ?_
  refine ev_ret ?_
  exact FinV.ret rfl (SubP.bool (intOk_raw b l))
theorem RatioOkW_ok (b1 b2 : Bool) (l1 l2 : List Nat) (g1 : Lg l1) (g2 : Lg l2) : Fn Tryz.prog 17 [.agg [.v (.bool b1), usD l1, .v (.bool b2), usD l2]] (.v (.bool (ratS b1 l1 b2 l2))) := by
  refine fn_ev tabT Tryz.func17 rfl rfl rfl rfl rfl rfl ?_
  intro w0 s0 mx
  refine ev_R tabT [] 100 ?_
  refine ev_seq ?_
  refine ev_seq (ev_region tabT [] 200 rfl ?_)
  refine sat_go ?_
  refine sat_fn _ (IntOkW_ok b1 l1) rfl ?_
  refine sat_go ?_
  refine sat_fnG _ (fun hg7 => IntOkW_ok b2 l2) rfl ?_
  refine sat_go ?_
  refine sat_done (exS_normal (ev_cond rfl (fun c1 => ?_) (fun c1 => ?_)))
  ·
    refine ev_R tabT [] 300 ?_
    refine ev_ret (exS_ret ?_)
    exact FinV.ret rfl (SubP.bool (by rw [ratS]; have h9 := c1; cases h1 : intOk b1 l1 <;> cases h2 : intOk b2 l2 <;> cases b2 <;> simp_all))
  · have k1 : intOk b1 l1 = true := by
      cases h9 : intOk b1 l1 with
      | true => rfl
      | false => rw [h9] at c1; simp at c1
    have k2 : intOk b2 l2 = true := by
      cases h9 : intOk b2 l2 with
      | true => rfl
      | false => rw [h9] at c1; simp at c1
    have d1 := intOk_dig g1 k1
    have d2 := intOk_dig g2 k2
    have n1 := intOk_len k1
    have n2 := intOk_len k2
    refine ev_skip (exS_normal ?_)
    refine ev_seq (ev_drawn tabT [] [[], [0], [0, 1], [0, 1, 2], [], [4], [4, 5], [0, 1, 2, 3, 4, 5, 6], [0, 1, 2, 3, 4, 5, 6, 7], [0, 1, 2, 3, 4, 5, 6, 7, 8], [0, 1, 2, 3, 4, 5, 6, 7, 8, 9], [0, 1, 2, 3, 4, 5, 6, 7, 8, 9, 10], [0, 1, 2, 3, 4, 5, 6, 7, 8, 9, 10, 11]] 400 mixT (by kernel_rfl) rfl ?_)
    refine sat_go ?_
    refine sat_fn _ (Of3_ok l1 g1 (by omega)) rfl ?_
    refine sat_go ?_
    refine sat_fn _ (Of3_ok l2 g2 (by omega)) rfl ?_
    refine sat_go ?_
    refine sat_fn _ (Common3_ok (VL l1) (VL l2) (by omega) (by omega)) rfl ?_
    refine sat_go ?_
    refine sat_fn _ (Small3_ok 1 (by decide) (by decide)) rfl ?_
    refine sat_go ?_
    refine sat_fn _ (Compare3_ok (Nat.gcd (VL l1) (VL l2)) 1 (by have := gcd_len d1 d2; omega) (by decide +kernel)) rfl ?_
    refine sat_go ?_
    refine sat_done (exS_normal (ev_ret ?_))
    exact FinV.ret rfl (SubP.bool (by rw [ratS, k1, k2]; have h9 := c1; rw [k1, k2] at h9; simp at h9 ⊢; rw [h9.1, decide_eq_true (List.length_pos_iff.2 h9.2)]; exact Bool.eq_iff_iff.2 (by simp)))
theorem ValueOkN_ok (v : Vl) (hk : v.k = 2 ∨ v.k = 3) (g1 : Lg v.nl) (g2 : Lg v.dl) : Fn Tryz.prog 6 [.agg (vlD v)] (.v (.bool (vokS v))) := by
  refine fn_ev tabT Tryz.func6 rfl rfl rfl rfl rfl rfl ?_
  intro w0 s0 mx
  refine ev_R tabT [] 100 ?_
  refine ev_seq (ev_drawn tabT [] [[], [0], [], [0, 1, 2], [], [4], [], [0, 1, 2, 3, 4, 5, 6], [0, 1, 2, 3, 4, 5, 6, 7], [0, 1, 2, 3, 4, 5, 6, 7, 8]] 200 mixT (by kernel_rfl) rfl ?_)
  refine sat_go ?_
  refine sat_fn _ ((SameInt_ok v.nn false v.nl []).args ⟨SubP.refl _, SubP.agg ⟨SubP.refl _, SubP.nilSl rfl, trivial⟩, trivial⟩) rfl ?_
  refine sat_go ?_
  refine sat_fn _ ((SameInt_ok v.dn false v.dl []).args ⟨SubP.refl _, SubP.agg ⟨SubP.refl _, SubP.nilSl rfl, trivial⟩, trivial⟩) rfl ?_
  refine sat_go ?_
  refine sat_done (exS_normal (ev_seq (ev_R tabT [] 300 ?_)))
  refine ev_block (ev_seq (ev_R tabT [] 400 ?_))
  refine ev_if (fun c3 => ?_) (fun c3 => ?_)
  ·
    omega
  ·
    refine ev_Q tabT [] 500 ?_
    refine exS_normal (ev_if (fun c4 => ?_) (fun c4 => ?_))
    ·
      omega
    ·
      refine ev_R tabT [] 700 ?_
      refine ev_if (fun c6 => ?_) (fun c6 => ?_)
      ·
        omega
      ·
        refine ev_R tabT [] 900 ?_
        refine ev_if (fun c8 => ?_) (fun c8 => ?_)
        ·
          refine ev_seq (ev_region tabT [] 1000 rfl ?_)
          refine sat_go ?_
          refine sat_fn _ (IntOkW_ok v.nn v.nl) rfl ?_
          refine sat_go ?_
          refine sat_done (exS_normal (ev_ret (exBl_ret (exS_ret ?_))))
          exact FinV.ret rfl (SubP.bool (by first | (simp only [vokS]; simp_all; done) | (simp [vokS, oneS, emS, zI, shr1, *]; done) | (simp [vokS, oneS, emS, zI, shr1, *]; rfl)))
        ·
          refine ev_R tabT [] 1100 ?_
          refine ev_if (fun c10 => ?_) (fun c10 => ?_)
          ·
            refine ev_R tabT [] 1200 ?_
            refine ev_seq (ev_region tabT [] 1300 rfl ?_)
            refine sat_go ?_
            refine sat_fn _ (RatioOkW_ok v.nn v.dn v.nl v.dl g1 g2) rfl ?_
            refine sat_go ?_
            refine sat_done (exS_normal (ev_ret (exBl_ret (exS_ret ?_))))
            exact FinV.ret rfl (SubP.bool (by first | (simp only [vokS]; simp_all; done) | (simp [vokS, oneS, emS, zI, shr1, *]; done) | (simp [vokS, oneS, emS, zI, shr1, *]; rfl)))
          ·
            omega
end Go.Proofs.YtnkjenaanjnihaaGreatDoor


/- Walks by the evaluator: naturals of the document: Double, Ones, Divide, Times. -/
namespace Go.Proofs.YtnkjenaanjnihaaGreatDoor
open Go.RowKit
variable {md me : Bool}
end Go.Proofs.YtnkjenaanjnihaaGreatDoor


/- Walks by the evaluator: integers and ranges of the document. -/
namespace Go.Proofs.YtnkjenaanjnihaaGreatDoor
open Go.RowKit
variable {md me : Bool}
end Go.Proofs.YtnkjenaanjnihaaGreatDoor


/- The heap of the built-in classes alone is usable. Plain. -/
namespace Go.Proofs.YtnkjenaanjnihaaGreatDoor
open Go.RowKit
theorem bgIn_all : (List.range 49).all (fun i => (decide ((bgO i).name.size ≤ 2000000) && decide ((bgO i).refs.length ≤ 2000000)) && decide ((bgO i).order.length ≤ 2000000)) = true := by decide +kernel
theorem hp_bg : HpIn (bgS 49) := by
  refine ⟨fun o ho => ?_, by rw [bgS_len]; decide⟩
  obtain ⟨i, hi, rfl⟩ := List.mem_map.1 ho
  have h := List.all_eq_true.1 bgIn_all i hi
  simp only [Bool.and_eq_true, decide_eq_true_eq] at h
  exact ⟨(by decide : (-9223372036854775808 : Int) ≤ 9 ∧ (9 : Int) ≤ 9223372036854775807), (by decide : (-9223372036854775808 : Int) ≤ 0 ∧ (0 : Int) ≤ 9223372036854775807), (by decide : (-9223372036854775808 : Int) ≤ 0 ∧ (0 : Int) ≤ 9223372036854775807), (by decide : (-9223372036854775808 : Int) ≤ 0 ∧ (0 : Int) ≤ 9223372036854775807), h.1.1, h.1.2, h.2, (by decide : 0 ≤ 2000000), (by decide : 0 ≤ 2000000), (by decide : 0 ≤ 2000000), (fun _ h => by cases h), (fun _ h => by cases h), (fun _ h => by cases h)⟩
theorem uh_bg : Uh (bgS 49) := by
  refine ⟨by rw [bgS_len]; decide, by rw [bgS_len]; decide, fun i hi => ?_⟩
  rw [bgS_len] at hi
  unfold codeS
  rw [if_pos (by omega), if_pos]
  show (bgS 49).getD ((i : Nat) : Int).toNat ob0 = bgO i
  rw [Int.toNat_natCast]
  exact bg_at (by omega)
end Go.Proofs.YtnkjenaanjnihaaGreatDoor


/- Walks by the evaluator: the laws of statements 41 and 42. -/
namespace Go.Proofs.YtnkjenaanjnihaaGreatDoor
open Go.RowKit
variable {md me : Bool}
theorem opQ_k {z : Int} {d : Nat} (h : (Qr.opQ z d).k = 0) : Qr.opQ z d = vlS (Qr.opQ z d).v := by
  by_cases f : Qr.fits z d = true
  · rw [opQ_yes f]; rfl
  · rw [opQ_no (by simpa using f)] at h
    exact absurd h (by decide)
theorem opQ_or (z : Int) (d : Nat) : (Qr.opQ z d).k = 0 ∨ (Qr.opQ z d).v = vl0 := by
  by_cases f : Qr.fits z d = true
  · left; rw [opQ_yes f]; rfl
  · right; rw [opQ_no (by simpa using f)]; rfl
theorem nm_in {v : Vl} (p : Qr.Nm v) : (Lg v.nl ∧ v.nl.length ≤ 128) ∧ Lg v.dl ∧ v.dl.length ≤ 128 := by
  refine ⟨⟨?_, ?_⟩, ?_⟩
  · rw [(nm_n p).2]; exact lim_Dg _
  · rw [(nm_n p).2]; exact p.q.nl
  · rcases p.k with h | h
    · have e : v.dl = [] := (congrArg Vl.dl p.e).trans (by unfold Qr.vQ; rw [if_pos (nm_d2 p h)]; rfl)
      rw [e]
      exact ⟨Lg.nil, by decide⟩
    · rw [(nm_d3 p h).2]
      exact ⟨lim_Dg _, p.q.dl⟩
theorem nm_V {v : Vl} (p : Qr.Nm v) : VL v.nl = (Qr.nV v).natAbs := by rw [(nm_n p).2, L_dig]
theorem res5_ok (a b : Vl) (p : Qr.Nm a) (q : Qr.Nm b) : Fn Tryz.prog 7 [.v (.int .i64 5), .agg (vlD a), .agg (vlD b)] (.tup [.agg (vlD (Qr.addS a b).v), .v (.bool (decide ((Qr.addS a b).k = 0)))]) := by
  refine fn_ev tabT Tryz.func7 rfl rfl rfl rfl rfl rfl ?_
  intro w0 s0 mx
  refine ev_R tabT [] 100 ?_
  refine ev_seq (ev_region tabT [] 200 rfl ?_)
  refine sat_go ?_
  refine sat_fn _ (Begin_ok) rfl ?_
  refine sat_go ?_
  refine sat_done (exS_normal ?_)
  refine ev_seq (ev_region tabT [] 300 rfl ?_)
  refine sat_go ?_
  refine sat_fnL _ (opBin5_ok (bgS 49) a b p q) rfl rfl ?_
  refine sat_go ?_
  refine sat_done (exS_normal ?_)
  refine ev_seq (ev_drawn tabT [] [[], [0], [0, 1], [], [3], [3, 4], [3, 4, 5], [0, 1, 2], [0, 1, 2, 3, 4, 5, 6, 7]] 400 mixT (by kernel_rfl) rfl ?_)
  refine sat_go ?_
  refine sat_done (exS_normal (ev_ret ?_))
  exact FinV.ret rfl (SubP.refl _)
theorem res6_ok (a b : Vl) (p : Qr.Nm a) (q : Qr.Nm b) : Fn Tryz.prog 7 [.v (.int .i64 6), .agg (vlD a), .agg (vlD b)] (.tup [.agg (vlD (Qr.subS a b).v), .v (.bool (decide ((Qr.subS a b).k = 0)))]) := by
  refine fn_ev tabT Tryz.func7 rfl rfl rfl rfl rfl rfl ?_
  intro w0 s0 mx
  refine ev_R tabT [] 100 ?_
  refine ev_seq (ev_region tabT [] 200 rfl ?_)
  refine sat_go ?_
  refine sat_fn _ (Begin_ok) rfl ?_
  refine sat_go ?_
  refine sat_done (exS_normal ?_)
  refine ev_seq (ev_region tabT [] 300 rfl ?_)
  refine sat_go ?_
  refine sat_fnL _ (opBin6_ok (bgS 49) a b p q) rfl rfl ?_
  refine sat_go ?_
  refine sat_done (exS_normal ?_)
  refine ev_seq (ev_drawn tabT [] [[], [0], [0, 1], [], [3], [3, 4], [3, 4, 5], [0, 1, 2], [0, 1, 2, 3, 4, 5, 6, 7]] 400 mixT (by kernel_rfl) rfl ?_)
  refine sat_go ?_
  refine sat_done (exS_normal (ev_ret ?_))
  exact FinV.ret rfl (SubP.refl _)
theorem res7_ok (a b : Vl) (p : Qr.Nm a) (q : Qr.Nm b) : Fn Tryz.prog 7 [.v (.int .i64 7), .agg (vlD a), .agg (vlD b)] (.tup [.agg (vlD (Qr.mulS a b).v), .v (.bool (decide ((Qr.mulS a b).k = 0)))]) := by
  refine fn_ev tabT Tryz.func7 rfl rfl rfl rfl rfl rfl ?_
  intro w0 s0 mx
  refine ev_R tabT [] 100 ?_
  refine ev_seq (ev_region tabT [] 200 rfl ?_)
  refine sat_go ?_
  refine sat_fn _ (Begin_ok) rfl ?_
  refine sat_go ?_
  refine sat_done (exS_normal ?_)
  refine ev_seq (ev_region tabT [] 300 rfl ?_)
  refine sat_go ?_
  refine sat_fnL _ (opBin7_ok (bgS 49) a b p q) rfl rfl ?_
  refine sat_go ?_
  refine sat_done (exS_normal ?_)
  refine ev_seq (ev_drawn tabT [] [[], [0], [0, 1], [], [3], [3, 4], [3, 4, 5], [0, 1, 2], [0, 1, 2, 3, 4, 5, 6, 7]] 400 mixT (by kernel_rfl) rfl ?_)
  refine sat_go ?_
  refine sat_done (exS_normal (ev_ret ?_))
  exact FinV.ret rfl (SubP.refl _)
theorem res8_ok (a b : Vl) (p : Qr.Nm a) (q : Qr.Nm b) : Fn Tryz.prog 7 [.v (.int .i64 8), .agg (vlD a), .agg (vlD b)] (.tup [.agg (vlD (Qr.divS a b).v), .v (.bool (decide ((Qr.divS a b).k = 0)))]) := by
  refine fn_ev tabT Tryz.func7 rfl rfl rfl rfl rfl rfl ?_
  intro w0 s0 mx
  refine ev_R tabT [] 100 ?_
  refine ev_seq (ev_region tabT [] 200 rfl ?_)
  refine sat_go ?_
  refine sat_fn _ (Begin_ok) rfl ?_
  refine sat_go ?_
  refine sat_done (exS_normal ?_)
  refine ev_seq (ev_region tabT [] 300 rfl ?_)
  refine sat_go ?_
  refine sat_fnL _ (opBin8_ok (bgS 49) a b p q) rfl rfl ?_
  refine sat_go ?_
  refine sat_done (exS_normal ?_)
  refine ev_seq (ev_drawn tabT [] [[], [0], [0, 1], [], [3], [3, 4], [3, 4, 5], [0, 1, 2], [0, 1, 2, 3, 4, 5, 6, 7]] 400 mixT (by kernel_rfl) rfl ?_)
  refine sat_go ?_
  refine sat_done (exS_normal (ev_ret ?_))
  exact FinV.ret rfl (SubP.refl _)
theorem rfZero_ok (b : Bool) (n : Nat) : Fn Tryz.prog 9 [rD b n] (.v (.bool (decide (n = 0)))) := by
  have hz := dig_len0 n
  refine fn_ev tabT Tryz.func9 rfl rfl rfl rfl rfl rfl ?_
  intro w0 s0 mx
  refine ev_R tabT [] 100 ?_
  refine ev_R tabT [] 200 ?_
  refine ev_ret ?_
  exact FinV.ret rfl (SubP.bool (decide_eq_decide.2 (by omega)))
end Go.Proofs.YtnkjenaanjnihaaGreatDoor


/- Walks by the evaluator: operators.Binary of nil times a number. -/
namespace Go.Proofs.YtnkjenaanjnihaaGreatDoor
open Go.RowKit
variable {md me : Bool}
theorem opRep0_ok (h : List Ob) (a b : Vl) (ha : a = vl0) : Fn Tryz.prog 69 [hpQ me md h, .agg (vlD a), .agg [.v (.bool b.nn), usD b.nl]] (.tup [.agg (stD st0), .v (.bool false)]) := by
  subst ha
  refine fn_ev tabT Tryz.func69 rfl rfl rfl rfl rfl rfl ?_
  intro w0 s0 mx
  refine ev_R tabT [] 100 ?_
  refine ev_seq (ev_drawn tabT [] [[], [0], [0, 1], [], [0, 1, 2, 3], [], [0, 1, 2, 3, 4, 5]] 200 mixT (by kernel_rfl) rfl ?_)
  refine sat_go ?_
  refine sat_fn _ (opObj0_ok h vl0 vl0_k) rfl ?_
  refine sat_go ?_
  refine sat_done (exS_normal (ev_R tabT [] 300 ?_))
  refine ev_seq (ev_block (ev_R tabT [] 400 ?_))
  refine ev_if (fun c3 => ?_) (fun c3 => ?_)
  ·
    simp [vl0] at c3
  ·
    refine ev_R tabT [] 600 ?_
    refine ev_if (fun c5 => ?_) (fun c5 => ?_)
    ·
      refine ev_R tabT [] 700 ?_
      refine ev_ret (exBl_ret (exS_ret ?_))
      exact FinV.ret rfl (SubP.tup (by repeat (first | exact trivial | exact SubP.refl _ | exact SubP.nilSl rfl | refine SubP.agg ?_ | refine ⟨?_, ?_⟩)))
    ·
      simp [ob0] at c5
theorem opAppN_ok (h : List Ob) (a b : Vl) (ha : a = vl0) (q : Qr.Nm b) : Fn Tryz.prog 44 [hpQ me md h, .v (.int .i64 7), .agg (vlD a), .agg (vlD b)] (.tup [.agg (stD st0), .v (.bool false)]) := by
  subst ha
  refine fn_ev tabT Tryz.func44 rfl rfl rfl rfl rfl rfl ?_
  intro w0 s0 mx
  refine ev_R tabT [] 100 ?_
  refine ev_seq ?_
  refine ev_seq (ev_region tabT [] 200 rfl ?_)
  refine sat_go ?_
  refine sat_fn _ (opNumNo_ok b q) rfl ?_
  refine sat_go ?_
  refine sat_done (exS_normal (ev_R tabT [] 300 ?_))
  refine ev_if (fun c2 => ?_) (fun c2 => ?_)
  ·
    exact absurd c2 (by decide)
  ·
    refine ev_skip (exS_normal (ev_seq (ev_R tabT [] 500 ?_)))
    refine ev_if (fun c4 => ?_) (fun c4 => ?_)
    ·
      simp [vl0] at c4
    ·
      refine ev_skip (exS_normal (ev_seq (ev_R tabT [] 700 ?_)))
      refine ev_block (ev_R tabT [] 800 ?_)
      refine ev_if (fun c7 => ?_) (fun c7 => ?_)
      ·
        exact absurd c7 (by decide)
      ·
        refine ev_R tabT [] 1000 ?_
        refine ev_if (fun c9 => ?_) (fun c9 => ?_)
        ·
          refine ev_seq (ev_R tabT [] 1100 ?_)
          refine ev_if (fun c10 => ?_) (fun c10 => ?_)
          ·
            exact absurd c10 (by decide)
          ·
            refine ev_skip (exS_normal (ev_R tabT [] 1300 ?_))
            refine ev_if (fun c12 => ?_) (fun c12 => ?_)
            ·
              refine ev_seq (ev_region tabT [] 1400 rfl ?_)
              refine sat_go ?_
              refine sat_fn _ (opRep0_ok h vl0 b rfl) rfl ?_
              refine sat_go ?_
              refine sat_done (exS_normal (ev_ret (exBl_ret (exS_ret ?_))))
              exact FinV.ret rfl (SubP.tup (by repeat (first | exact trivial | exact SubP.refl _ | exact SubP.nilSl rfl | refine SubP.agg ?_ | refine ⟨?_, ?_⟩)))
            ·
              refine ev_skip (exBl_normal (exS_normal (ev_R tabT [] 2000 ?_)))
              refine ev_ret ?_
              exact FinV.ret rfl (SubP.tup (by repeat (first | exact trivial | exact SubP.refl _ | exact SubP.nilSl rfl | refine SubP.agg ?_ | refine ⟨?_, ?_⟩)))
        ·
          exact absurd c9 (by decide)
set_option maxHeartbeats 2000000 in
theorem opBinN_ok (h : List Ob) (a b : Vl) (ha : a = vl0) (q : Qr.Nm b) (hh : HpIn h) (g : Uh h) : Fn Tryz.prog 21 [hpQ me md h, .v (.int .i64 7), .agg (vlD a), .agg (vlD b)] (plP (raS 32 (bnT h a b))) := by
  have hka : 0 ≤ a.k ∧ a.k < 6 := by rw [ha]; exact vl0_k
  have hkb := nm_k q
  have hna := (hh.at (clA h a)).nm
  have hnb := (hh.at (clA h b)).nm
  refine fn_ev tabT Tryz.func21 rfl rfl rfl rfl rfl rfl ?_
  intro w0 s0 mx
  refine ev_R tabT [] 100 ?_
  refine ev_seq (ev_region tabT [] 200 rfl ?_)
  refine sat_go ?_
  refine sat_fn _ (binaries_ok) rfl ?_
  refine sat_go ?_
  refine sat_done (exS_normal ?_)
  refine ev_seq (ev_drawn tabT [] [[], [0], [0, 1], [], [], [4], [4, 5], [], [7], [0, 1, 2, 3, 4, 5, 6, 7, 8], [0, 1, 2, 3, 4, 5, 6, 7, 8, 9]] 300 mixT (by kernel_rfl) rfl ?_)
  repeat (first | refine sat_same ?_ | refine sat_impA ?_ | refine sat_need (by first | (decide +kernel) | (simp only [ByteArray.size_append, bszQ, List.size_toArray, List.length_cons, List.length_nil]; omega) | first | exact trivial | omega | exact ini (by omega) (by omega) | (intro hh; simp at hh; exact ini (by omega) (by omega)) | (intro hh; simp at hh ⊢; omega) | (simp at *; omega) | (simp_all; done)) ?_)
  refine sat_fn _ ((opAtt0_ok h a _ [b] hka).args ⟨SubP.refl _, SubP.refl _, SubP.refl _, SubP.slrSl rfl, trivial⟩) rfl ?_
  repeat (first | refine sat_same ?_ | refine sat_impA ?_ | refine sat_need (by first | (decide +kernel) | (simp only [ByteArray.size_append, bszQ, List.size_toArray, List.length_cons, List.length_nil]; omega) | first | exact trivial | omega | exact ini (by omega) (by omega) | (intro hh; simp at hh; exact ini (by omega) (by omega)) | (intro hh; simp at hh ⊢; omega) | (simp at *; omega) | (simp_all; done)) ?_)
  refine sat_done (exS_normal (ev_R tabT [] 400 ?_))
  refine ev_seq ?_
  refine ev_seq (ev_drawn tabT [] [[], [0], [0, 1], [], [0, 1, 2, 3], [], [5], [5, 6], [], [0, 1, 2, 3, 4, 5, 6, 7, 8], [0, 1, 2, 3, 4, 5, 6, 7, 8, 9]] 500 mixT (by kernel_rfl) rfl ?_)
  refine sat_go ?_
  refine sat_fn _ (heapClassOf_ok h a (cf_no hka)) rfl ?_
  refine sat_go ?_
  refine sat_fn _ (heapClassOf_ok h b (cf_no hkb)) rfl ?_
  refine sat_go ?_
  refine sat_done (exS_normal (ev_if (fun c4 => ?_) (fun c4 => ?_)))
  ·
    refine ev_drawn tabT [] [[], [0], [0, 1], [], [], [4], [4, 5], [], [7], [0, 1, 2, 3, 4, 5, 6, 7, 8], [0, 1, 2, 3, 4, 5, 6, 7, 8, 9]] 600 mixT (by kernel_rfl) rfl ?_
    repeat (first | refine sat_same ?_ | refine sat_impA ?_ | refine sat_need (by first | (decide +kernel) | (simp only [ByteArray.size_append, bszQ, List.size_toArray, List.length_cons, List.length_nil]; omega) | first | exact trivial | omega | exact ini (by omega) (by omega) | (intro hh; simp at hh; exact ini (by omega) (by omega)) | (intro hh; simp at hh ⊢; omega) | (simp at *; omega) | (simp_all; done)) ?_)
    refine sat_fn _ ((opAtt0_ok h b _ [a] hkb).args ⟨SubP.refl _, SubP.refl _, SubP.refl _, SubP.slrSl rfl, trivial⟩) rfl ?_
    repeat (first | refine sat_same ?_ | refine sat_impA ?_ | refine sat_need (by first | (decide +kernel) | (simp only [ByteArray.size_append, bszQ, List.size_toArray, List.length_cons, List.length_nil]; omega) | first | exact trivial | omega | exact ini (by omega) (by omega) | (intro hh; simp at hh; exact ini (by omega) (by omega)) | (intro hh; simp at hh ⊢; omega) | (simp at *; omega) | (simp_all; done)) ?_)
    refine sat_done (exS_normal ?_)
    refine ev_seq (ev_region tabT [] 700 rfl ?_)
    refine sat_go ?_
    refine sat_fn _ ((ConcatSt_ok).args ⟨by refine SubP.slrRows ?_; repeat (first | exact trivial | exact SubP.refl _ | exact SubP.nilSl rfl | refine ⟨?_, ?_⟩), trivial⟩) rfl ?_
    refine sat_go ?_
    refine sat_done (exS_normal (ev_seq ?_))
    refine ev_seq (ev_drawn tabT [] [[], [0], [0, 1], [], [], [], [5], [5, 6], [0, 1, 2, 3, 4, 5, 6, 7]] 800 mixT (by kernel_rfl) rfl ?_)
    repeat (first | refine sat_same ?_ | refine sat_impA ?_ | refine sat_need (by first | (decide +kernel) | (simp only [ByteArray.size_append, bszQ, List.size_toArray, List.length_cons, List.length_nil]; omega) | first | exact trivial | omega | exact ini (by omega) (by omega) | (intro hh; simp at hh; exact ini (by omega) (by omega)) | (intro hh; simp at hh ⊢; omega) | (simp at *; omega) | (simp_all; done)) ?_)
    refine sat_fn _ (opRefl0_ok h a b _ hka hkb) rfl ?_
    repeat (first | refine sat_same ?_ | refine sat_impA ?_ | refine sat_need (by first | (decide +kernel) | (simp only [ByteArray.size_append, bszQ, List.size_toArray, List.length_cons, List.length_nil]; omega) | first | exact trivial | omega | exact ini (by omega) (by omega) | (intro hh; simp at hh; exact ini (by omega) (by omega)) | (intro hh; simp at hh ⊢; omega) | (simp at *; omega) | (simp_all; done)) ?_)
    refine sat_done (exS_normal (ev_if (fun c7 => ?_) (fun c7 => ?_)))
    ·
      exact absurd c7 (by decide)
    ·
      refine ev_skip (exS_normal (ev_R tabT [] 1000 ?_))
      refine ev_seq ?_
      refine ev_seq (ev_drawn tabT [] [[], [0], [0, 1], [], [0, 1, 2, 3], [0, 1, 2, 3, 4], [0, 1, 2, 3, 4, 5], [0, 1, 2, 3, 4, 5, 6], [0, 1, 2, 3, 4, 5, 6, 7], [0, 1, 2, 3, 4, 5, 6, 7, 8], [0, 1, 2, 3, 4, 5, 6], [0, 1, 2, 3, 4, 5, 6, 7, 8, 9, 10], [0, 1, 2, 3, 4, 5, 6, 7, 8, 9, 10, 11], [0, 1, 2, 3, 4, 5, 6, 7, 8, 9, 10, 11, 12]] 1100 mixT (by kernel_rfl) rfl ?_)
      refine sat_go ?_
      refine sat_fn _ (opInst0_ok h a hka) rfl ?_
      refine sat_go ?_
      refine sat_fnG _ (fun hg11 => opInst0_ok h b hkb) rfl ?_
      refine sat_go ?_
      refine sat_done (exS_normal (ev_if (fun c10 => ?_) (fun c10 => ?_)))
      ·
        refine ev_region tabT [] 1200 rfl ?_
        refine sat_go ?_
        refine sat_fn _ (opAppN_ok h a b ha q) rfl ?_
        refine sat_go ?_
        refine sat_done (exS_normal (ev_seq (ev_R tabT [] 1300 ?_)))
        refine ev_if (fun c12 => ?_) (fun c12 => ?_)
        ·
          refine ev_drawn tabT [] [[], [0], [0, 1], [0, 1, 2], [], [4], [4, 5], [], [4, 5, 6, 7], [0, 1, 2, 3, 4, 5, 6, 7, 8], [0, 1, 2, 3, 4, 5, 6, 7, 8, 9], [], [11], [11, 12], [], [4, 5, 6, 7, 8, 11, 12, 13, 14], [0, 1, 2, 3, 4, 5, 6, 7, 8, 9, 10, 11, 12, 13, 14, 15], [0, 1, 2, 3, 4, 5, 6, 7, 8, 9, 10, 11, 12, 13, 14, 15, 16], [0, 1, 2, 3, 4, 5, 6, 7, 8, 9, 10, 11, 12, 13, 14, 15, 16, 17], [0, 1, 2, 3, 4, 5, 6, 7, 8, 9, 10, 11, 12, 13, 14, 15, 16, 17, 18]] 1400 mixT (by kernel_rfl) rfl ?_
          repeat (first | refine sat_same ?_ | refine sat_impA ?_ | refine sat_need (by first | (decide +kernel) | (simp only [ByteArray.size_append, bszQ, List.size_toArray, List.length_cons, List.length_nil]; omega) | first | exact trivial | omega | exact ini (by omega) (by omega) | (intro hh; simp at hh; exact ini (by omega) (by omega)) | (intro hh; simp at hh ⊢; omega) | (simp at *; omega) | (simp_all; done)) ?_)
          refine sat_fn _ (heapName_ok h a g (cf_no hka)) rfl ?_
          repeat (first | refine sat_same ?_ | refine sat_impA ?_ | refine sat_need (by first | (decide +kernel) | (simp only [ByteArray.size_append, bszQ, List.size_toArray, List.length_cons, List.length_nil]; omega) | first | exact trivial | omega | exact ini (by omega) (by omega) | (intro hh; simp at hh; exact ini (by omega) (by omega)) | (intro hh; simp at hh ⊢; omega) | (simp at *; omega) | (simp_all; done)) ?_)
          refine sat_fn _ (heapName_ok h b g (cf_no hkb)) rfl ?_
          repeat (first | refine sat_same ?_ | refine sat_impA ?_ | refine sat_need (by first | (decide +kernel) | (simp only [ByteArray.size_append, bszQ, List.size_toArray, List.length_cons, List.length_nil]; omega) | first | exact trivial | omega | exact ini (by omega) (by omega) | (intro hh; simp at hh; exact ini (by omega) (by omega)) | (intro hh; simp at hh ⊢; omega) | (simp at *; omega) | (simp_all; done)) ?_)
          refine sat_fn _ (opRaise_ok 32 (bnT h a b)) rfl ?_
          repeat (first | refine sat_same ?_ | refine sat_impA ?_ | refine sat_need (by first | (decide +kernel) | (simp only [ByteArray.size_append, bszQ, List.size_toArray, List.length_cons, List.length_nil]; omega) | first | exact trivial | omega | exact ini (by omega) (by omega) | (intro hh; simp at hh; exact ini (by omega) (by omega)) | (intro hh; simp at hh ⊢; omega) | (simp at *; omega) | (simp_all; done)) ?_)
          refine sat_done (exS_normal (ev_R tabT [] 1500 ?_))
          refine ev_R tabT [] 1600 ?_
          refine ev_ret ?_
          exact FinV.ret rfl (SubP.agg (by repeat (first | exact trivial | exact SubP.refl _ | exact SubP.nilSl rfl | refine ⟨?_, ?_⟩)))
        ·
          exact absurd c12 (by decide)
      ·
        simp at c10
  ·
    refine ev_skip (exS_normal ?_)
    refine ev_seq (ev_region tabT [] 700 rfl ?_)
    refine sat_go ?_
    refine sat_fn _ ((ConcatSt_ok).args ⟨by refine SubP.slrRows ?_; repeat (first | exact trivial | exact SubP.refl _ | exact SubP.nilSl rfl | refine ⟨?_, ?_⟩), trivial⟩) rfl ?_
    refine sat_go ?_
    refine sat_done (exS_normal (ev_seq ?_))
    refine ev_seq (ev_drawn tabT [] [[], [0], [0, 1], [], [], [], [5], [5, 6], [0, 1, 2, 3, 4, 5, 6, 7]] 800 mixT (by kernel_rfl) rfl ?_)
    repeat (first | refine sat_same ?_ | refine sat_impA ?_ | refine sat_need (by first | (decide +kernel) | (simp only [ByteArray.size_append, bszQ, List.size_toArray, List.length_cons, List.length_nil]; omega) | first | exact trivial | omega | exact ini (by omega) (by omega) | (intro hh; simp at hh; exact ini (by omega) (by omega)) | (intro hh; simp at hh ⊢; omega) | (simp at *; omega) | (simp_all; done)) ?_)
    refine sat_fn _ (opRefl0_ok h a b _ hka hkb) rfl ?_
    repeat (first | refine sat_same ?_ | refine sat_impA ?_ | refine sat_need (by first | (decide +kernel) | (simp only [ByteArray.size_append, bszQ, List.size_toArray, List.length_cons, List.length_nil]; omega) | first | exact trivial | omega | exact ini (by omega) (by omega) | (intro hh; simp at hh; exact ini (by omega) (by omega)) | (intro hh; simp at hh ⊢; omega) | (simp at *; omega) | (simp_all; done)) ?_)
    refine sat_done (exS_normal (ev_if (fun c7 => ?_) (fun c7 => ?_)))
    ·
      exact absurd c7 (by decide)
    ·
      refine ev_skip (exS_normal (ev_R tabT [] 1000 ?_))
      refine ev_seq ?_
      refine ev_seq (ev_drawn tabT [] [[], [0], [0, 1], [], [0, 1, 2, 3], [0, 1, 2, 3, 4], [0, 1, 2, 3, 4, 5], [0, 1, 2, 3, 4, 5, 6], [0, 1, 2, 3, 4, 5, 6, 7], [0, 1, 2, 3, 4, 5, 6, 7, 8], [0, 1, 2, 3, 4, 5, 6], [0, 1, 2, 3, 4, 5, 6, 7, 8, 9, 10], [0, 1, 2, 3, 4, 5, 6, 7, 8, 9, 10, 11], [0, 1, 2, 3, 4, 5, 6, 7, 8, 9, 10, 11, 12]] 1100 mixT (by kernel_rfl) rfl ?_)
      refine sat_go ?_
      refine sat_fn _ (opInst0_ok h a hka) rfl ?_
      refine sat_go ?_
      refine sat_fnG _ (fun hg11 => opInst0_ok h b hkb) rfl ?_
      refine sat_go ?_
      refine sat_done (exS_normal (ev_if (fun c10 => ?_) (fun c10 => ?_)))
      ·
        refine ev_region tabT [] 1200 rfl ?_
        refine sat_go ?_
        refine sat_fn _ (opAppN_ok h a b ha q) rfl ?_
        refine sat_go ?_
        refine sat_done (exS_normal (ev_seq (ev_R tabT [] 1300 ?_)))
        refine ev_if (fun c12 => ?_) (fun c12 => ?_)
        ·
          refine ev_drawn tabT [] [[], [0], [0, 1], [0, 1, 2], [], [4], [4, 5], [], [4, 5, 6, 7], [0, 1, 2, 3, 4, 5, 6, 7, 8], [0, 1, 2, 3, 4, 5, 6, 7, 8, 9], [], [11], [11, 12], [], [4, 5, 6, 7, 8, 11, 12, 13, 14], [0, 1, 2, 3, 4, 5, 6, 7, 8, 9, 10, 11, 12, 13, 14, 15], [0, 1, 2, 3, 4, 5, 6, 7, 8, 9, 10, 11, 12, 13, 14, 15, 16], [0, 1, 2, 3, 4, 5, 6, 7, 8, 9, 10, 11, 12, 13, 14, 15, 16, 17], [0, 1, 2, 3, 4, 5, 6, 7, 8, 9, 10, 11, 12, 13, 14, 15, 16, 17, 18]] 1400 mixT (by kernel_rfl) rfl ?_
          repeat (first | refine sat_same ?_ | refine sat_impA ?_ | refine sat_need (by first | (decide +kernel) | (simp only [ByteArray.size_append, bszQ, List.size_toArray, List.length_cons, List.length_nil]; omega) | first | exact trivial | omega | exact ini (by omega) (by omega) | (intro hh; simp at hh; exact ini (by omega) (by omega)) | (intro hh; simp at hh ⊢; omega) | (simp at *; omega) | (simp_all; done)) ?_)
          refine sat_fn _ (heapName_ok h a g (cf_no hka)) rfl ?_
          repeat (first | refine sat_same ?_ | refine sat_impA ?_ | refine sat_need (by first | (decide +kernel) | (simp only [ByteArray.size_append, bszQ, List.size_toArray, List.length_cons, List.length_nil]; omega) | first | exact trivial | omega | exact ini (by omega) (by omega) | (intro hh; simp at hh; exact ini (by omega) (by omega)) | (intro hh; simp at hh ⊢; omega) | (simp at *; omega) | (simp_all; done)) ?_)
          refine sat_fn _ (heapName_ok h b g (cf_no hkb)) rfl ?_
          repeat (first | refine sat_same ?_ | refine sat_impA ?_ | refine sat_need (by first | (decide +kernel) | (simp only [ByteArray.size_append, bszQ, List.size_toArray, List.length_cons, List.length_nil]; omega) | first | exact trivial | omega | exact ini (by omega) (by omega) | (intro hh; simp at hh; exact ini (by omega) (by omega)) | (intro hh; simp at hh ⊢; omega) | (simp at *; omega) | (simp_all; done)) ?_)
          refine sat_fn _ (opRaise_ok 32 (bnT h a b)) rfl ?_
          repeat (first | refine sat_same ?_ | refine sat_impA ?_ | refine sat_need (by first | (decide +kernel) | (simp only [ByteArray.size_append, bszQ, List.size_toArray, List.length_cons, List.length_nil]; omega) | first | exact trivial | omega | exact ini (by omega) (by omega) | (intro hh; simp at hh; exact ini (by omega) (by omega)) | (intro hh; simp at hh ⊢; omega) | (simp at *; omega) | (simp_all; done)) ?_)
          refine sat_done (exS_normal (ev_R tabT [] 1500 ?_))
          refine ev_R tabT [] 1600 ?_
          refine ev_ret ?_
          exact FinV.ret rfl (SubP.agg (by repeat (first | exact trivial | exact SubP.refl _ | exact SubP.nilSl rfl | refine ⟨?_, ?_⟩)))
        ·
          exact absurd c12 (by decide)
      ·
        simp at c10
end Go.Proofs.YtnkjenaanjnihaaGreatDoor


/- Walks by the evaluator: the law of statement 42. -/
namespace Go.Proofs.YtnkjenaanjnihaaGreatDoor
open Go.RowKit
variable {md me : Bool}
theorem resN_ok (a b : Vl) (ha : a = vl0) (q : Qr.Nm b) : Fn Tryz.prog 7 [.v (.int .i64 7), .agg (vlD a), .agg (vlD b)] (.tup [.agg (vlD vl0), .v (.bool false)]) := by
  refine fn_ev tabT Tryz.func7 rfl rfl rfl rfl rfl rfl ?_
  intro w0 s0 mx
  refine ev_R tabT [] 100 ?_
  refine ev_seq (ev_region tabT [] 200 rfl ?_)
  refine sat_go ?_
  refine sat_fn _ (Begin_ok) rfl ?_
  refine sat_go ?_
  refine sat_done (exS_normal ?_)
  refine ev_seq (ev_region tabT [] 300 rfl ?_)
  refine sat_go ?_
  refine sat_fnL _ (opBinN_ok (bgS 49) a b ha q hp_bg uh_bg) rfl rfl ?_
  refine sat_go ?_
  refine sat_done (exS_normal ?_)
  refine ev_seq (ev_drawn tabT [] [[], [0], [0, 1], [], [3], [3, 4], [3, 4, 5], [0, 1, 2], [0, 1, 2, 3, 4, 5, 6, 7]] 400 mixT (by kernel_rfl) rfl ?_)
  refine sat_go ?_
  refine sat_done (exS_normal (ev_ret ?_))
  exact FinV.ret rfl (SubP.refl _)
def muT (a b : Vl) : St := if a = vl0 then raS 32 ByteArray.empty else Qr.mulS a b
theorem nm_v0 {v : Vl} (p : Qr.Nm v) : ¬ v = vl0 := fun e => by
  have h := p.k
  rw [e] at h
  exact absurd h (by decide)
theorem muT_ok (a b : Vl) (h : Qr.Nm a ∨ a = vl0) (q : Qr.Nm b) : Fn Tryz.prog 7 [.v (.int .i64 7), .agg (vlD a), .agg (vlD b)] (.tup [.agg (vlD (muT a b).v), .v (.bool (decide ((muT a b).k = 0)))]) := by
  unfold muT
  by_cases e : a = vl0
  · rw [if_pos e]; exact resN_ok a b e q
  · rw [if_neg e]; exact res7_ok a b (h.resolve_right e) q
theorem muT_n {a b : Vl} (p : Qr.Nm a) : muT a b = Qr.mulS a b := if_neg (nm_v0 p)
theorem pair_ok (a b : Vl) (p : Qr.Nm a) (q : Qr.Nm b) : Fn Tryz.prog 14 [.agg (vlD a), .agg (vlD b)] (.tup [.agg (vlD (Qr.addS a b).v), .agg (vlD (Qr.mulS a b).v), .agg (vlD (Qr.mulS b a).v), .agg (vlD (Qr.addS b a).v), .v (.bool (((decide ((Qr.addS a b).k = 0) && decide ((Qr.addS b a).k = 0)) && decide ((Qr.mulS a b).k = 0)) && decide ((Qr.mulS b a).k = 0)))]) := by
  refine fn_ev tabT Tryz.func14 rfl rfl rfl rfl rfl rfl ?_
  intro w0 s0 mx
  refine ev_R tabT [] 100 ?_
  refine ev_seq (ev_region tabT [] 200 rfl ?_)
  refine sat_go ?_
  refine sat_fn _ (res5_ok a b p q) rfl ?_
  refine sat_go ?_
  refine sat_done (exS_normal ?_)
  refine ev_seq (ev_region tabT [] 300 rfl ?_)
  refine sat_go ?_
  refine sat_fn _ (res5_ok b a q p) rfl ?_
  refine sat_go ?_
  refine sat_done (exS_normal ?_)
  refine ev_seq (ev_region tabT [] 400 rfl ?_)
  refine sat_go ?_
  refine sat_fn _ (res7_ok a b p q) rfl ?_
  refine sat_go ?_
  refine sat_done (exS_normal ?_)
  refine ev_seq (ev_region tabT [] 500 rfl ?_)
  refine sat_go ?_
  refine sat_fn _ (res7_ok b a q p) rfl ?_
  refine sat_go ?_
  refine sat_done (exS_normal ?_)
  refine ev_seq (ev_drawn tabT [] [[], [], [], [], [], [4], [4, 5], [4, 5, 6], [4, 5, 6, 7], [4, 5, 6, 7, 8], [4, 5, 6, 7, 8, 9], [4, 5, 6, 7, 8, 9, 10], [4, 5, 6, 7, 8, 9, 10, 11], [4, 5, 6, 7, 8, 9, 10, 11, 12], [0, 4, 5, 6, 7, 8, 9, 10, 11], [0, 1, 4, 5, 6, 7, 8, 9, 10, 11, 14], [0, 1, 2, 4, 5, 6, 7, 8, 9, 10, 11, 14, 15], [0, 1, 2, 3, 4, 5, 6, 7, 8, 9, 10, 11, 14, 15, 16], [0, 1, 2, 3, 4, 5, 6, 7, 8, 9, 10, 11, 12, 13, 14, 15, 16, 17]] 600 mixT (by kernel_rfl) rfl ?_)
  refine sat_go ?_
  refine sat_done (exS_normal (ev_ret ?_))
  exact FinV.ret rfl (SubP.refl _)
theorem ad_k {a b : Vl} (h : (Qr.addS a b).k = 0) : Qr.addS a b = vlS (Qr.addS a b).v := opQ_k h
theorem sb_k {a b : Vl} (h : (Qr.subS a b).k = 0) : Qr.subS a b = vlS (Qr.subS a b).v := opQ_k h
theorem ml_k {a b : Vl} (h : (Qr.mulS a b).k = 0) : Qr.mulS a b = vlS (Qr.mulS a b).v := opQ_k h
theorem add_or {a b : Vl} (p : Qr.Nm a) (q : Qr.Nm b) : Qr.Nm (Qr.addS a b).v ∨ (Qr.addS a b).v = vl0 := (opQ_or _ _).imp (fun h => (Qr.add_ok p q h).1) id
set_option maxHeartbeats 4000000 in
theorem Law42_ok (a b c : Vl) (ga : Lg a.nl ∧ Lg a.dl) (gb : Lg b.nl ∧ Lg b.dl) (gc : Lg c.nl ∧ Lg c.dl) : Fn Tryz.prog 4 [.agg (vlD a), .agg (vlD b), .agg (vlD c)] (.v (.bool true)) := by
  refine fn_ev tabT Tryz.func4 rfl rfl rfl rfl rfl rfl ?_
  intro w0 s0 mx
  refine ev_R tabT [] 100 ?_
  refine ev_seq (ev_R tabT [] 200 ?_)
  refine ev_tell [3, 4, 5, 27, 28] [0, 1, 2] 210 [(26, vsD [a, b, c])] [] ?_
  refine ⟨⟨⟨Sub.slrSl rfl, le_t⟩, le_o, rfl, rfl⟩, ?_⟩
  refine ev_block ?_
  refine ev_loopK (ι := {k : Nat // k ≤ 3 ∧ ∀ j < k, Qr.Nm ([a, b, c].getD j vl0)}) [3, 4, 5, 26, 27] [0, 1, 2] 250 (fun x => [(28, .v (.int .i64 x.1))]) (fun _ => []) (fun x => 3 - x.1) ⟨0, by decide, fun j h => absurd h (Nat.not_lt_zero _)⟩ ?_
  refine ⟨⟨le_t, le_o, rfl, rfl⟩, fun x => ?_⟩
  have hk : x.1 ≤ 3 := x.2.1
  have hin : Lg ([a, b, c].getD x.1 vl0).nl ∧ Lg ([a, b, c].getD x.1 vl0).dl := by
    rcases x.1 with _ | _ | _ | _
    · exact ga
    · exact gb
    · exact gc
    · exact ⟨Lg.nil, Lg.nil⟩
  refine ev_R tabT [] 300 ?_
  refine ev_seq (ev_cond rfl (fun c2 => ?_) (fun c2 => ?_))
  · have hlt : x.1 < 3 := by
      have h9 := c2
      simp at h9
      omega
    refine ev_skip (exS_normal (ev_seq (ev_block (ev_R tabT [] 400 ?_))))
    refine ev_seq (ev_region tabT [] 500 rfl ?_)
    refine sat_go ?_
    refine sat_fn _ (IsNumber_ok _) rfl ?_
    refine sat_go ?_
    refine sat_fnG _ (fun hg5 => ValueOkN_ok _ (by simp at hg5; simp; omega) (by simp only [Int.toNat_natCast]; exact hin.1) (by simp only [Int.toNat_natCast]; exact hin.2)) rfl ?_
    refine sat_go ?_
    refine sat_done (exS_normal (ev_cond rfl (fun c4 => ?_) (fun c4 => ?_)))
    ·
      refine ev_R tabT [] 600 ?_
      refine ev_ret (exBl_ret (exS_ret (exL_ret (exBl_ret (exS_ret ?_)))))
      exact FinV.ret rfl (SubP.refl _)
    · have hN : Qr.Nm ([a, b, c].getD x.1 vl0) := by
        have h9 := c4
        simp only [Int.toNat_natCast] at h9
        simp at h9
        exact Qr.nm_of hin.1 hin.2 (by have h7 := h9.1; simp; omega) (by simpa using h9.2)
      refine ev_skip (exBl_normal (exS_normal (ev_Q tabT [] 700 ?_)))
      exact exL_normal (⟨x.1 + 1, by omega, fun j hj => by
        rcases Nat.lt_or_ge j x.1 with h8 | h8
        · exact x.2.2 j h8
        · rw [show j = x.1 by omega]; exact hN⟩) ⟨⟨Sub.int (by push_cast; rfl), le_t⟩, le_o, rfl, rfl⟩ (by show 3 - (x.1 + 1) < 3 - x.1; omega)
  · have he3 : x.1 = 3 := by
      have h9 := c2
      simp at h9
      omega
    have pa : Qr.Nm a := x.2.2 0 (by omega)
    have pb : Qr.Nm b := x.2.2 1 (by omega)
    have pc : Qr.Nm c := x.2.2 2 (by omega)
    refine ev_exit (exS_exit (exL_exit (exBl_same (exS_normal ?_))))
    refine ev_seq (ev_region tabT [] 800 rfl ?_)
    refine sat_go ?_
    refine sat_fn _ (pair_ok a b pa pb) rfl ?_
    refine sat_go ?_
    refine sat_done (exS_normal ?_)
    refine ev_seq (ev_region tabT [] 900 rfl ?_)
    refine sat_go ?_
    refine sat_fn _ (muT_ok (Qr.addS a b).v c (add_or pa pb) pc) rfl ?_
    refine sat_go ?_
    refine sat_done (exS_normal ?_)
    refine ev_seq (ev_region tabT [] 1000 rfl ?_)
    refine sat_go ?_
    refine sat_fn _ (res7_ok a c pa pc) rfl ?_
    refine sat_go ?_
    refine sat_done (exS_normal ?_)
    refine ev_seq (ev_region tabT [] 1100 rfl ?_)
    refine sat_go ?_
    refine sat_fn _ (res7_ok b c pb pc) rfl ?_
    refine sat_go ?_
    refine sat_done (exS_normal (ev_seq (ev_R tabT [] 1200 ?_)))
    refine ev_cond rfl (fun c11 => ?_) (fun c11 => ?_)
    ·
      refine ev_R tabT [] 1300 ?_
      refine ev_ret (exS_ret ?_)
      exact FinV.ret rfl (SubP.refl _)
    · simp at c11
      obtain ⟨⟨⟨⟨⟨⟨k1, k2⟩, k3⟩, k4⟩, k5⟩, k6⟩, k7⟩ := c11
      have ps := (Qr.add_ok pa pb k1).1
      have pm := (Qr.mul_ok pa pb k3).1
      have px := (Qr.mul_ok pa pc k6).1
      have py := (Qr.mul_ok pb pc k7).1
      have hmu := muT_n (b := c) ps
      rw [hmu] at k5
      obtain ⟨l1, l2, l3⟩ := Qr.law42 pa pb pc (ad_k k1) (ad_k k2) (ml_k k3) (ml_k k4) (ml_k k5) (ml_k k6) (ml_k k7)
      refine ev_skip (exS_normal ?_)
      refine ev_seq (ev_region tabT [] 1400 rfl ?_)
      refine sat_go ?_
      refine sat_fn _ (res5_ok (Qr.mulS a c).v (Qr.mulS b c).v px py) rfl ?_
      refine sat_go ?_
      refine sat_done (exS_normal ?_)
      refine ev_seq (ev_region tabT [] 1500 rfl ?_)
      refine sat_go ?_
      refine sat_fn _ (res6_ok (Qr.addS a b).v b ps pb) rfl ?_
      refine sat_go ?_
      refine sat_done (exS_normal (ev_seq (ev_R tabT [] 1600 ?_)))
      refine ev_cond rfl (fun c15 => ?_) (fun c15 => ?_)
      ·
        refine ev_R tabT [] 1700 ?_
        refine ev_ret (exS_ret ?_)
        exact FinV.ret rfl (SubP.refl _)
      · simp at c15
        obtain ⟨l4, l5, l6⟩ := l3 (ad_k c15.1) (sb_k c15.2)
        refine ev_skip (exS_normal (ev_seq ?_))
        refine ev_seq (ev_region tabT [] 1800 rfl ?_)
        refine sat_go ?_
        refine sat_fn _ (SameValue_ok _ _) rfl ?_
        refine sat_go ?_
        refine sat_fnG _ (fun hg7 => SameValue_ok _ _) rfl ?_
        refine sat_go ?_
        refine sat_fnG _ (fun hg13 => SameValue_ok _ _) rfl ?_
        refine sat_go ?_
        refine sat_fnG _ (fun hg19 => SameValue_ok _ _) rfl ?_
        refine sat_go ?_
        refine sat_done (exS_normal (ev_if (fun c17 => ?_) (fun c17 => ?_)))
        ·
          rw [hmu] at c17
          rcases c17 with ((h | h) | h) | h
          · exact absurd l1 h
          · exact absurd l2 h
          · exact absurd l4 h
          · exact absurd l5 h
        ·
          refine ev_skip (exS_normal (ev_seq ?_))
          refine ev_seq (ev_region tabT [] 2000 rfl ?_)
          refine sat_go ?_
          refine sat_fn _ (Number7_ok b (nm_in pb).1.1 (by have := (nm_in pb).1.2; omega) (nm_in pb).2.1 (by have := (nm_in pb).2.2; omega)) rfl ?_
          refine sat_go ?_
          refine sat_fn _ (rfZero_ok _ _) rfl ?_
          refine sat_go ?_
          refine sat_done (exS_normal (ev_cond rfl (fun c19 => ?_) (fun c19 => ?_)))
          ·
            refine ev_R tabT [] 2100 ?_
            refine ev_ret (exS_ret ?_)
            exact FinV.ret rfl (SubP.refl _)
          · have hb0 : Qr.nV b ≠ 0 := fun h9 => by
              have h8 := nm_V pb
              rw [h9] at h8
              simp [h8] at c19
            have l7 := l6 hb0
            refine ev_skip (exS_normal ?_)
            refine ev_seq (ev_region tabT [] 2200 rfl ?_)
            refine sat_go ?_
            refine sat_fn _ (res8_ok (Qr.mulS a b).v b pm pb) rfl ?_
            refine sat_go ?_
            refine sat_done (exS_normal ?_)
            refine ev_seq (ev_region tabT [] 2300 rfl ?_)
            refine sat_go ?_
            refine sat_fnG _ (fun hg4 => SameValue_ok _ _) rfl ?_
            refine sat_go ?_
            refine sat_done (exS_normal (ev_ret ?_))
            exact FinV.ret rfl (SubP.bool (by rw [l7]; simp [vlS]))
end Go.Proofs.YtnkjenaanjnihaaGreatDoor


/- Arguments opened: what a reading of a value, an object, a heap gives as data. -/
namespace Go.Proofs.YtnkjenaanjnihaaGreatDoor
open Go.ChangeShapes Go.WideShapes Go.ChangeAt Go.RowKit Go.Deep
theorem bulk_mem {H : Type} {d : DataW H} {l : List (DataW H)} (h : d ∈ l) : Rows.uptoBulk d ≤ Rows.uptoBulkAll l := by
  induction l with
  | nil => cases h
  | cons x r ih =>
    simp only [Rows.uptoBulkAll]
    cases List.mem_cons.1 h with
    | inl e => subst e; omega
    | inr e => have := ih e; omega
theorem bulk_one {H : Type} (d : DataW H) : 1 ≤ Rows.uptoBulk d := by
  cases d with
  | lit l => cases l <;> simp [Rows.uptoBulk]
  | nil => simp [Rows.uptoBulk]
  | ptr d => simp [Rows.uptoBulk]
  | slice elems spare => simp [Rows.uptoBulk]
  | agg parts => simp [Rows.uptoBulk]
  | iface t d => simp [Rows.uptoBulk]
  | map entries => simp [Rows.uptoBulk]
  | held h => simp [Rows.uptoBulk]
theorem bulk_length {H : Type} (l : List (DataW H)) : l.length ≤ Rows.uptoBulkAll l := by
  induction l with
  | nil => simp [Rows.uptoBulkAll]
  | cons x r ih => have := bulk_one x; simp only [Rows.uptoBulkAll, List.length_cons]; omega
theorem part_bulk {H : Type} {l : List (DataW H × List MemPlace)} {i : Nat} {y : DataW H × List MemPlace} (h : l[i]? = some y) {n : Nat} (hn : Rows.uptoBulk (DataW.agg (l.map (·.1))) ≤ n) : Rows.uptoBulk y.1 ≤ n := by
  have h1 : y.1 ∈ l.map (·.1) := List.mem_map.2 ⟨y, List.mem_of_getElem? h, rfl⟩
  have h2 := bulk_mem h1
  simp only [Rows.uptoBulk] at hn
  omega
def sW (W : World) : Sb := ⟨fun b _ => b < W.heap.size, fun b _ => b < W.heap.size, fun _ _ h => h⟩
def I64 (x : Int) : Prop := -9223372036854775808 ≤ x ∧ x ≤ 9223372036854775807
theorem i64_wf {x : Int} (h : (Lit.int .i64 x).wf = true) : I64 x := by
  simp [Lit.wf] at h
  have h1 : IntKind.i64.min = -9223372036854775808 := by decide
  have h2 : IntKind.i64.max = 9223372036854775807 := by decide
  unfold I64
  omega
theorem u32_wf {x : Int} (h : (Lit.int .u32 x).wf = true) : 0 ≤ x ∧ x < 4294967296 := by
  simp [Lit.wf] at h
  have h1 : IntKind.u32.min = 0 := by decide
  have h2 : IntKind.u32.max = 4294967295 := by decide
  omega
def Opn {H : Type} (enc : TypeId × Value → H) (P : Program) (W : World) (t : TypeId) {α : Type} (f : α → List D) (Q : α → Nat → Prop) : Prop :=
  ∀ (fuel : Nat) (cs : List Value) (d : DataW H) (ps : List MemPlace), cs.length = P.cellsOf t → DataW.trod enc P W 0 (fun _ => true) true fuel t cs = some (d, ps) →
    ∃ x, AllV W (sW W) (D.pvs (f x)) cs ∧ (∀ c ∈ cs, c.oneCell' = true) ∧ ∀ n, Rows.uptoBulk d ≤ n → Q x n
section
variable {H : Type} {enc : TypeId × Value → H} {P : Program} {W : World}
theorem one_mem {c : Value} (h : c.oneCell' = true) : ∀ x ∈ [c], x.oneCell' = true := fun x hx => by rw [List.mem_singleton] at hx; rw [hx]; exact h
theorem Opn.int {t : TypeId} (ht : P.underlying t = some (.int .i64)) : Opn enc P W t iD (fun x _ => I64 x) := by
  intro fuel cs d ps _ h
  obtain ⟨k, rfl, _, wf⟩ := DataW.trod_int ht h
  exact ⟨k, ⟨rfl, trivial⟩, one_mem rfl, fun _ _ => i64_wf wf⟩
theorem Opn.u32 {t : TypeId} (ht : P.underlying t = some (.int .u32)) : Opn enc P W t uD (fun x _ => x < 4294967296) := by
  intro fuel cs d ps _ h
  obtain ⟨k, rfl, _, wf⟩ := DataW.trod_int ht h
  have h1 := u32_wf wf
  refine ⟨k.toNat, ⟨?_, trivial⟩, one_mem rfl, fun _ _ => by omega⟩
  show Value.int .u32 k = .int .u32 (k.toNat : Nat)
  rw [Int.toNat_of_nonneg h1.1]
theorem Opn.bool {t : TypeId} (ht : P.underlying t = some .bool) : Opn enc P W t (fun b : Bool => [.v (.bool b)]) (fun _ _ => True) := by
  intro fuel cs d ps _ h
  obtain ⟨k, rfl, _⟩ := DataW.trod_bool ht h
  exact ⟨k, ⟨rfl, trivial⟩, one_mem rfl, fun _ _ => trivial⟩
theorem Opn.str {t : TypeId} (ht : P.underlying t = some .string) : Opn enc P W t sD (fun s n => s.size ≤ n) := by
  intro fuel cs d ps _ h
  obtain ⟨k, rfl, hx, _⟩ := DataW.trod_string ht h
  refine ⟨k, ⟨rfl, trivial⟩, one_mem rfl, fun n hn => ?_⟩
  simp only [Prod.mk.injEq] at hx
  rw [hx.1] at hn
  simp only [Rows.uptoBulk] at hn
  have e : k.data.toList.length = k.size := by rw [Array.length_toList]; rfl
  omega
theorem Opn.sl {α : Type} {f : α → List D} {Q : α → Nat → Prop} {t e : TypeId} {sz : Nat} (e0 : α) (ht : P.underlying t = some (.slice e)) (hc : P.cellsOf e = sz) (hz : 0 < sz) (he : Opn enc P W e f Q) :
    Opn enc P W t (fun l => [.sl false sz l f e0]) (fun l n => l.length ≤ n ∧ ∀ x ∈ l, Q x n) := by
  intro fuel cs d ps _ h
  rcases open_slice ht h with ⟨rfl, hx⟩ | ⟨a, len, cap, m, n, D', Pl, rfl, _, hl, hm, hmm, hx, hel⟩
  · exact ⟨[], ⟨PV.sl_nil, trivial⟩, one_mem rfl, fun _ _ => ⟨Nat.zero_le _, fun x hx => by cases hx⟩⟩
  · simp only [if_true] at hmm
    subst hmm
    have hq : ∀ i, i < len → ∃ x : α, ∃ cs', W.cells? 0 (a.add (i * sz)) sz = some cs' ∧ AllV W (sW W) (D.pvs (f x)) cs' ∧ (∀ c ∈ cs', c.oneCell' = true) ∧ ∀ n, Rows.uptoBulk (D' i) ≤ n → Q x n := fun i hi => by
      obtain ⟨cs', h1, h2⟩ := hel i (by omega)
      rw [hc] at h1
      obtain ⟨_, hlen, _⟩ := World.cells?_some h1
      obtain ⟨x, hx1, hx2, hx3⟩ := he n cs' (D' i) (Pl i) (by omega) h2
      exact ⟨x, cs', h1, hx1, hx2, hx3⟩
    obtain ⟨g, hg⟩ : ∃ g : Nat → α, ∀ i, i < len → ∃ cs', W.cells? 0 (a.add (i * sz)) sz = some cs' ∧ AllV W (sW W) (D.pvs (f (g i))) cs' ∧ (∀ c ∈ cs', c.oneCell' = true) ∧ ∀ n, Rows.uptoBulk (D' i) ≤ n → Q (g i) n :=
      ⟨fun i => if h : i < len then Classical.choose (hq i h) else e0, fun i hi => by simp only [dif_pos hi]; exact Classical.choose_spec (hq i hi)⟩
    have hrl : (((List.range len).map g).map fun a => D.pvs (f a)).length = len := by simp
    refine ⟨(List.range len).map g, ⟨⟨some a, m, ?_, ?_, ?_, ?_, ?_⟩, trivial⟩, one_mem rfl, fun n hn => ?_⟩
    · show Value.slice (some a) len m = Value.slice (some a) (((List.range len).map g).map fun a => D.pvs (f a)).length m
      rw [hrl]
    · show (((List.range len).map g).map fun a => D.pvs (f a)).length ≤ m
      rw [hrl]; exact hl
    · have : maxLen = 9223372036854775807 := by decide
      omega
    · intro row hrow
      have hrow : row ∈ ((List.range len).map g).map fun a => D.pvs (f a) := hrow
      rw [List.map_map] at hrow
      obtain ⟨i, hi, rfl⟩ := List.mem_map.1 hrow
      obtain ⟨cs', h1, h2, -⟩ := hg i (List.mem_range.1 hi)
      have h3 := h2.length
      obtain ⟨_, h4, _⟩ := World.cells?_some h1
      show (D.pvs (f (g i))).length = sz
      omega
    · intro i row hrow
      have hrow : (((List.range len).map g).map fun a => D.pvs (f a))[i]? = some row := hrow
      rw [List.map_map, List.getElem?_map] at hrow
      obtain ⟨j, hj, rfl⟩ := Option.map_eq_some_iff.1 hrow
      have hi : i < len := by have := (List.getElem?_eq_some_iff.1 hj).1; simpa using this
      rw [List.getElem?_range hi] at hj
      cases hj
      obtain ⟨cs', h1, h2, h3, -⟩ := hg i hi
      obtain ⟨_, h4, h5⟩ := World.cells?_some h1
      obtain ⟨b, off, spot⟩ := a
      cases spot with
      | some sp =>
        obtain ⟨cs0, k1, -⟩ := hg 0 (by omega)
        obtain ⟨_, k4, k5⟩ := World.cells?_some k1
        have h6 := k5 0 hz
        rw [List.getElem?_eq_getElem (by omega)] at h6
        have := World.cell?_spot h6
        simp [Addr.add] at this
      | none =>
        refine ⟨b, off, rfl, fun j d hd => ?_⟩
        obtain ⟨v, hv, hp⟩ := h2.get hd
        have hj : j < cs'.length := (List.getElem?_eq_some_iff.1 hv).1
        have h6 := h5 j (by omega)
        rw [hv] at h6
        have h7 : W.cell? ⟨b, off + i * sz + j, none⟩ = some v := by rw [add_plain, add_plain] at h6; exact h6
        exact ⟨v, h7, (World.block_lt_of_cell? _ _ h7 : b < W.heap.size), hp, h3 v (List.mem_of_getElem? hv)⟩
    · simp only [Prod.mk.injEq] at hx
      rw [hx.1] at hn
      simp only [Rows.uptoBulk] at hn
      have h1 := bulk_length ((List.range len).map D')
      simp only [List.length_map, List.length_range] at h1
      refine ⟨by simp; omega, fun x hx => ?_⟩
      obtain ⟨i, hi, rfl⟩ := List.mem_map.1 hx
      obtain ⟨cs', -, -, -, h4⟩ := hg i (List.mem_range.1 hi)
      exact h4 n (by have := bulk_mem (d := D' i) (l := (List.range len).map D') (List.mem_map.2 ⟨i, hi, rfl⟩); omega)
end
theorem list5 {α : Type} {l : List α} (h : l.length = 5) : ∃ c0 c1 c2 c3 c4, l = [c0, c1, c2, c3, c4] := by
  match l, h with
  | [c0, c1, c2, c3, c4], _ => exact ⟨c0, c1, c2, c3, c4, rfl⟩
theorem list7 {α : Type} {l : List α} (h : l.length = 7) : ∃ c0 c1 c2 c3 c4 c5 c6, l = [c0, c1, c2, c3, c4, c5, c6] := by
  match l, h with
  | [c0, c1, c2, c3, c4, c5, c6], _ => exact ⟨c0, c1, c2, c3, c4, c5, c6, rfl⟩
theorem allV_of1 {W : World} {s : Sb} {d : D} {c : Value} (h : AllV W s (D.pvs [d]) [c]) : d.pv.p W s c := h.1
section
variable {H : Type} {enc : TypeId × Value → H} {W : World}
def intD (p : Bool × List Nat) : List D := [.v (.bool p.1), usD p.2]
set_option maxRecDepth 100000 in
theorem Opn.bigI : Opn enc Tryz.prog W 24 intD (fun p n => p.2.length ≤ n ∧ ∀ x ∈ p.2, x < 4294967296) := by
  intro fuel cs d ps hl h
  have e4 : Tryz.prog.cellsOf 4 = 1 := by kernel_rfl
  have e22 : Tryz.prog.cellsOf 22 = 1 := by kernel_rfl
  have eI : Tryz.prog.cellsOf 24 = 2 := by kernel_rfl
  rw [eI] at hl
  match cs, hl with
  | [c0, c1], _ =>
    obtain ⟨xs, n1, _, hx, _, hlen, hg⟩ := DataW.trod_struct Tryz.underlying24 h
    match xs, hlen with
    | [y0, y1], _ =>
      have g0 : DataW.trod enc Tryz.prog W 0 (fun _ => true) true n1 4 (([c0, c1].drop 0).take (Tryz.prog.cellsOf 4)) = some y0 := hg 0 _ rfl
      rw [e4] at g0
      replace g0 : DataW.trod enc Tryz.prog W 0 (fun _ => true) true n1 4 [c0] = some y0 := g0
      have g1 : DataW.trod enc Tryz.prog W 0 (fun _ => true) true n1 22 (([c0, c1].drop 1).take (Tryz.prog.cellsOf 22)) = some y1 := hg 1 _ rfl
      rw [e22] at g1
      replace g1 : DataW.trod enc Tryz.prog W 0 (fun _ => true) true n1 22 [c1] = some y1 := g1
      obtain ⟨x0, a0, o0, q0⟩ := Opn.bool Tryz.underlying4 _ _ y0.1 y0.2 (by rw [e4]; rfl) g0
      obtain ⟨x1, a1, o1, q1⟩ := Opn.sl 0 Tryz.underlying22 (sz := 1) (by kernel_rfl) (by decide) (Opn.u32 Tryz.underlying48) _ _ y1.1 y1.2 (by rw [e22]; rfl) g1
      simp only [Prod.mk.injEq] at hx
      refine ⟨(x0, x1), ⟨allV_of1 a0, allV_of1 a1, trivial⟩, fun c hc => ?_, fun n hn => ?_⟩
      · simp only [List.mem_cons, List.not_mem_nil, or_false] at hc
        rcases hc with rfl | rfl
        · exact o0 _ (by simp)
        · exact o1 _ (by simp)
      · rw [hx.1] at hn
        exact q1 n (part_bulk (i := 1) (y := y1) rfl hn)
theorem Opn.agg {P : Program} {α : Type} {f : α → List D} {Q : α → Nat → Prop} {t : TypeId} {fs : Array Field} {base : Nat} (ho : Opn enc P W t f Q) (ht : P.underlying t = some (.struct fs)) {v : Value} {d : DataW H} {ps : List MemPlace}
    (hv : Value.okWide P W .any base t v) (h : DataW.Trod enc P W 0 (fun _ => true) true t v d ps) :
    ∃ x, (D.agg (f x)).pv.p W (sW W) v ∧ ∀ n, Rows.uptoBulk d ≤ n → Q x n := by
  obtain ⟨cs, rfl, hsz⟩ := okWide_struct ht hv
  obtain ⟨l⟩ := cs
  obtain ⟨fuel, hf⟩ := h
  obtain ⟨x, h1, -, h3⟩ := ho fuel l d ps hsz hf
  exact ⟨x, ⟨l, rfl, h1⟩, h3⟩
end
end Go.Proofs.YtnkjenaanjnihaaGreatDoor


/- A value of any size, read out. -/
namespace Go.Proofs.YtnkjenaanjnihaaGreatDoor
open Go.ChangeShapes Go.WideShapes Go.ChangeAt Go.RowKit Go.Deep
section
variable {H : Type} {enc : TypeId × Value → H} {W : World}
set_option maxRecDepth 100000 in
theorem Opn.valW : Opn enc Tryz.prog W 26 vlD (fun v _ => Lg v.nl ∧ Lg v.dl) := by
  intro fuel cs d ps hl h
  have e3 : Tryz.prog.cellsOf 3 = 1 := by kernel_rfl
  have e9 : Tryz.prog.cellsOf 9 = 1 := by kernel_rfl
  have e24 : Tryz.prog.cellsOf 24 = 2 := by kernel_rfl
  have eV : Tryz.prog.cellsOf 26 = 7 := by kernel_rfl
  rw [eV] at hl
  obtain ⟨c0, c1, c2, c3, c4, c5, c6, rfl⟩ := list7 hl
  obtain ⟨xs, n1, _, hx, _, hlen, hg⟩ := DataW.trod_struct Tryz.underlying26 h
  obtain ⟨y0, y1, y2, y3, y4, rfl⟩ := list5 hlen
  have g0 : DataW.trod enc Tryz.prog W 0 (fun _ => true) true n1 3 (([c0, c1, c2, c3, c4, c5, c6].drop 0).take (Tryz.prog.cellsOf 3)) = some y0 := hg 0 _ rfl
  rw [e3] at g0
  replace g0 : DataW.trod enc Tryz.prog W 0 (fun _ => true) true n1 3 [c0] = some y0 := g0
  have g1 : DataW.trod enc Tryz.prog W 0 (fun _ => true) true n1 24 (([c0, c1, c2, c3, c4, c5, c6].drop 1).take (Tryz.prog.cellsOf 24)) = some y1 := hg 1 _ rfl
  rw [e24] at g1
  replace g1 : DataW.trod enc Tryz.prog W 0 (fun _ => true) true n1 24 [c1, c2] = some y1 := g1
  have g2 : DataW.trod enc Tryz.prog W 0 (fun _ => true) true n1 24 (([c0, c1, c2, c3, c4, c5, c6].drop 3).take (Tryz.prog.cellsOf 24)) = some y2 := hg 2 _ rfl
  rw [e24] at g2
  replace g2 : DataW.trod enc Tryz.prog W 0 (fun _ => true) true n1 24 [c3, c4] = some y2 := g2
  have g3 : DataW.trod enc Tryz.prog W 0 (fun _ => true) true n1 9 (([c0, c1, c2, c3, c4, c5, c6].drop 5).take (Tryz.prog.cellsOf 9)) = some y3 := hg 3 _ rfl
  rw [e9] at g3
  replace g3 : DataW.trod enc Tryz.prog W 0 (fun _ => true) true n1 9 [c5] = some y3 := g3
  have g4 : DataW.trod enc Tryz.prog W 0 (fun _ => true) true n1 3 (([c0, c1, c2, c3, c4, c5, c6].drop 6).take (Tryz.prog.cellsOf 3)) = some y4 := hg 4 _ rfl
  rw [e3] at g4
  replace g4 : DataW.trod enc Tryz.prog W 0 (fun _ => true) true n1 3 [c6] = some y4 := g4
  obtain ⟨x0, a0, o0, q0⟩ := Opn.int Tryz.underlying3 _ _ y0.1 y0.2 (by rw [e3]; rfl) g0
  obtain ⟨x1, a1, o1, q1⟩ := Opn.bigI _ _ y1.1 y1.2 (by rw [e24]; rfl) g1
  obtain ⟨x2, a2, o2, q2⟩ := Opn.bigI _ _ y2.1 y2.2 (by rw [e24]; rfl) g2
  obtain ⟨x3, a3, o3, q3⟩ := Opn.str Tryz.underlying9 _ _ y3.1 y3.2 (by rw [e9]; rfl) g3
  obtain ⟨x4, a4, o4, q4⟩ := Opn.int Tryz.underlying3 _ _ y4.1 y4.2 (by rw [e3]; rfl) g4
  simp only [Prod.mk.injEq] at hx
  refine ⟨⟨x0, x1.1, x1.2, x2.1, x2.2, x3, x4⟩, ⟨allV_of1 a0, a1.1, a1.2.1, a2.1, a2.2.1, allV_of1 a3, allV_of1 a4, trivial⟩, fun c hc => ?_, fun n hn => ?_⟩
  · simp only [List.mem_cons, List.not_mem_nil, or_false] at hc
    rcases hc with rfl | rfl | rfl | rfl | rfl | rfl | rfl
    · exact o0 _ (by simp)
    · exact o1 _ (by simp)
    · exact o1 _ (by simp)
    · exact o2 _ (by simp)
    · exact o2 _ (by simp)
    · exact o3 _ (by simp)
    · exact o4 _ (by simp)
  · rw [hx.1] at hn
    have b1 := q1 n (part_bulk (i := 1) (y := y1) rfl hn)
    have b2 := q2 n (part_bulk (i := 2) (y := y2) rfl hn)
    exact ⟨b1.2, b2.2⟩
end
end Go.Proofs.YtnkjenaanjnihaaGreatDoor


/- Arguments opened: a reading of a value gives a list. -/
namespace Go.Proofs.YtnkjenaanjnihaaGreatDoor
open Go.ChangeShapes Go.WideShapes Go.ChangeAt Go.RowKit Go.Deep
end Go.Proofs.YtnkjenaanjnihaaGreatDoor


/- From a walk that says 'the call returns true and writes nothing that was there' to a given row of the kind 'it returns true and leaves its arguments alone'. For any number of parameters. -/
namespace Go.Proofs.YtnkjenaanjnihaaGreatDoor
open Go.ChangeShapes Go.WideShapes Go.ChangeAt Go.RowKit
theorem TrodAll_below {H : Type} {enc : TypeId × Value → H} {P : Program} (hl : laidOutB P = true) {W W' : World} (hb : Below W.heap.size W W') :
    ∀ (ts : List TypeId) (vs : List Value) (ds : List (DataW H)) (ps : List MemPlace), (∀ t ∈ ts, P.readableRec t = true ∧ t < P.types.size) →
      DataW.TrodAll enc P W 0 (fun _ => true) true ts vs ds ps → DataW.TrodAll enc P W' 0 (fun b => decide (b < W.heap.size)) true ts vs ds ps
  | [], [], [], ps, _, h => h
  | t :: ts, v :: vs, d :: ds, ps, hr, h => by
    obtain ⟨p, q, hp, hq, e⟩ := h
    have lt : ∀ x ∈ p, x.block < W.heap.size := by obtain ⟨m, hm⟩ := hp; exact DataW.trod_lt m _ _ _ hm
    have ht := hr t (by simp)
    exact ⟨p, q, Below.trod hl ht.1 ht.2 hp hb lt, TrodAll_below hl hb ts vs ds q (fun x hx => hr x (by simp [hx])) hq, e⟩
  | [], [], _ :: _, _, _, h => by simp [DataW.TrodAll] at h
  | [], _ :: _, _, _, _, h => by simp [DataW.TrodAll] at h
  | _ :: _, [], _, _, _, h => by simp [DataW.TrodAll] at h
  | _ :: _, _ :: _, [], _, _, h => by simp [DataW.TrodAll] at h
end Go.Proofs.YtnkjenaanjnihaaGreatDoor


/- OperatorsArithmeticLaws: the given statement. No condition on the arguments; the listed variables start as the program's text lays them. -/
namespace Go.Proofs.YtnkjenaanjnihaaGreatDoor
open Go.ChangeShapes Go.WideShapes Go.ChangeAt Go.RowKit Go.Shelf
theorem Law_own : ownKnob Tryz.prog.godebug = none := by kernel_rfl
theorem accept_same : (Rows.laid_unicode_utf8_acceptRanges : DataW Unit) = Lib.acceptData := by kernel_rfl
theorem first_same : (Rows.laid_unicode_utf8_first : DataW Unit) = Lib.firstData := by kernel_rfl
theorem space_same : (Rows.laid_strings_asciiSpace : DataW Unit) = Lib.tabData .u8 Lib.asciiSpaceTab := by kernel_rfl
theorem Law_glob {W : World} (hL : laidMetH Tryz.prog Rows.operatorsArithmeticLawsRow.laid W) (hs : W.ShapedOpen Tryz.prog) : Glb W (sW W) := by
  have h3 : Lib.VarReads Tryz.prog W "unicode/utf8.first" Rows.laid_unicode_utf8_first := Lib.laidMet.reads hL (.tail _ (.tail _ (.tail _ (.head _))))
  have h4 : Lib.VarReads Tryz.prog W "unicode/utf8.acceptRanges" Rows.laid_unicode_utf8_acceptRanges := Lib.laidMet.reads hL (.head _)
  have h5 : Lib.VarReads Tryz.prog W "strings.asciiSpace" Rows.laid_strings_asciiSpace := Lib.laidMet.reads hL (.tail _ (.tail _ (.head _)))
  rw [first_same] at h3
  rw [accept_same] at h4
  rw [space_same] at h5
  have hT : Lib.Utf8Tabs 0 1 W := utf8Tabs_of_readsT (U8Types.of196 Tryz.laysValid) ⟨by kernel_rfl, by kernel_rfl, by kernel_rfl, by kernel_rfl, by kernel_rfl, by kernel_rfl, by kernel_rfl⟩ h3 h4
  have hS : Lib.TabIs Tryz.prog W "strings.asciiSpace" .u8 Lib.asciiSpaceTab := by
    obtain ⟨g, t, cs, fuel, p, hg, hty, hvar, hd⟩ := h5
    obtain rfl := Option.some.inj ((show Tryz.prog.globalNamed "strings.asciiSpace" = some 2 by kernel_rfl).symm.trans hg)
    obtain rfl := Option.some.inj ((show (Tryz.prog.globals[2]?).map (·.type) = some 75 by kernel_rfl).symm.trans hty)
    have := Lib.cells_of_tab Tryz.underlying75 Tryz.underlying5 (by kernel_rfl) (by kernel_rfl) hd
    unfold Lib.TabIs
    rw [hvar, ← this]
  have hM := Go.Proofs.cell_of_shapedOpen_int (g := 4) (t := 3) (zero := #[.int .i64 0]) hs (of_decide_eq_true (by kernel_rfl)) (by kernel_rfl) rfl (by kernel_rfl) (by kernel_rfl) Tryz.underlying3
  refine ⟨fun b o => W.cell? ⟨b, o, none⟩, ⟨hM, fun c hc => hT.1 c hc, fun i hi => hT.2 i hi, fun c hc => ?_⟩, fun b o v hv => ⟨hv, World.block_lt_of_cell? _ _ hv⟩, fun b o h => by cases h⟩
  show W.cell? ⟨2, c, none⟩ = _
  rw [hS.cell (by kernel_rfl) c (by rw [Lib.asciiSpaceTab_length]; exact hc), Lib.asciiSpaceTab_at c hc]
noncomputable def Law_world (os : Os) : World :=
  let N := (World.settled Tryz.prog os).heap.size
  let w0 := World.holding Tryz.prog os ⟨#[.cells (Lib.whiteT.map fun (z : Nat) => Value.int .u16 (z : Int)).toArray 163, .cells #[.slice (some ⟨N, 0, none⟩) 7 7, .slice none 0 0, .int .i64 2] 160], #[], []⟩
  let put (h : Array Obj) (g : Nat) (cs : Array Value) : Array Obj := h.modify g fun
    | .cells _ t frozen => .cells cs t frozen
    | o => o
  let h1 := put w0.heap 2 (Lib.asciiSpaceTab.map fun z => Value.int .u8 z).toArray
  let h2 := put h1 0 (Lib.firstTab.map fun z => Value.int .u8 z).toArray
  let h3 := put h2 1 ((List.range 16).flatMap fun i => [Value.int .u8 (Lib.accLo i), Value.int .u8 (Lib.accHi i)]).toArray
  let h4 := put h3 3 #[.pointer (some ⟨N + 1, 0, none⟩)]
  { w0 with heap := h4 }
def Law_arg : Array Value := #[.agg #[.int .i64 0, .bool false, .slice none 0 0, .bool false, .slice none 0 0, .string ⟨#[]⟩, .int .i64 0], .agg #[.int .i64 0, .bool false, .slice none 0 0, .bool false, .slice none 0 0, .string ⟨#[]⟩, .int .i64 0], .agg #[.int .i64 0, .bool false, .slice none 0 0, .bool false, .slice none 0 0, .string ⟨#[]⟩, .int .i64 0]]
theorem Law_met (os : Os) : laidMet Tryz.prog Rows.operatorsArithmeticLawsRow.laid ((Law_world os).forCall (fun _ _ => 0) ⟨#[], Law_arg, []⟩).memory :=
  laidMet_of_run' 10 (by kernel_rfl) (by kernel_rfl)
theorem Law_row (os : Os) {H : Type} (enc : TypeId × Value → H) :
    (OpenSpec.ofChange Rows.operatorsArithmeticLawsSpec).preRow enc Tryz.prog Tryz.f4 Rows.operatorsArithmeticLawsRow.domain false Rows.operatorsArithmeticLawsRow.laid ((Law_world os).forCall (fun _ _ => 0) ⟨#[], Law_arg, []⟩).memory Law_arg := by
  have hw : (DataW.whole enc Tryz.prog ((Law_world os).forCall (fun _ _ => 0) ⟨#[], Law_arg, []⟩).memory Tryz.f4.params.toList Rows.operatorsArithmeticLawsSpec.vars false Law_arg.toList 8).map (fun x => (x.1, x.2.1)) =
      some ([.agg [.lit (.int .i64 0), .agg [.lit (.bool false), .nil], .agg [.lit (.bool false), .nil], .lit (.string []), .lit (.int .i64 0)], .agg [.lit (.int .i64 0), .agg [.lit (.bool false), .nil], .agg [.lit (.bool false), .nil], .lit (.string []), .lit (.int .i64 0)], .agg [.lit (.int .i64 0), .agg [.lit (.bool false), .nil], .agg [.lit (.bool false), .nil], .lit (.string []), .lit (.int .i64 0)]], []) := by kernel_rfl
  obtain ⟨⟨x1, x2, x3⟩, hx, hx1⟩ := Option.map_eq_some_iff.1 hw
  simp only [Prod.mk.injEq] at hx1
  obtain ⟨rfl, rfl⟩ := hx1
  exact OpenSpec.preRow_of_cond 8 hx (by kernel_rfl) (fun k hk => by cases hk) (by kernel_rfl) (Law_met os)
set_option maxRecDepth 100000 in
set_option maxHeartbeats 2000000 in
theorem Law_lifted (os : Os) (started : os.Started) (H : Type) (enc : TypeId × Value → H) (F : Stop.Interp) :
    ReturnsInHanded {} Tryz.checked os 4 .any ((OpenSpec.ofChange Rows.operatorsArithmeticLawsSpec).preRow enc Tryz.prog Tryz.f4 Rows.operatorsArithmeticLawsRow.domain false Rows.operatorsArithmeticLawsRow.laid) (((OpenSpec.ofChange Rows.operatorsArithmeticLawsSpec).at F).post enc Tryz.prog Tryz.f4 false true false false) := by
  refine returnsInHanded_of_row (C := Tryz.checked) (s := OpenSpec.ofChange Rows.operatorsArithmeticLawsSpec) Law_own started (by kernel_rfl) Tryz.func4
    (witness_row_atRef (enc := enc) (C := Tryz.checked) false (Law_world os) Law_arg rfl (by kernel_rfl) (by kernel_rfl) (by kernel_rfl) (Law_row os enc)) ?_
  intro W base args ds gs before hval0 hW _ hk _ hL hS _
  have hval : ∀ (j : Nat) t v, Tryz.f4.params[j]? = some t → args[j]? = some v → Value.okWide Tryz.prog W .any base t v := hval0
  have hW' := hW
  obtain ⟨p, q, hA0, hV, rfl, hfz, hnd⟩ := hW
  have hA : DataW.TrodAll enc Tryz.prog W 0 (fun _ => true) true Tryz.f4.params.toList args.toList ds p := hA0
  obtain ⟨rfl, rfl⟩ := trodVars_none hV
  have hA1 := hA
  rw [Tryz.params4] at hA hval
  obtain ⟨v0, vs0, d0, ds0, p0, q0, hargs, rfl, rfl, h0, r0⟩ := trodAll_cons hA
  obtain ⟨v1, vs1, d1, ds1, p1, q1, rfl, rfl, rfl, h1, r1⟩ := trodAll_cons r0
  obtain ⟨v2, vs2, d2, ds2, p2, q2, rfl, rfl, rfl, h2, r2⟩ := trodAll_cons r1
  obtain ⟨rfl, rfl, rfl⟩ := trodAll_nil r2
  obtain rfl : args = #[v0, v1, v2] := by cases args; simp_all
  obtain ⟨x0, a0, i0⟩ := Opn.agg Opn.valW Tryz.underlying26 (hval 0 26 v0 rfl rfl) h0
  obtain ⟨x1, a1, i1⟩ := Opn.agg Opn.valW Tryz.underlying26 (hval 1 26 v1 rfl rfl) h1
  obtain ⟨x2, a2, i2⟩ := Opn.agg Opn.valW Tryz.underlying26 (hval 2 26 v2 rfl rfl) h2
  have hG := Law_glob hL hS
  refine ((Law42_ok x0 x1 x2 (i0 _ (Nat.le_refl _)) (i1 _ (Nat.le_refl _)) (i2 _ (Nat.le_refl _))).2 W (sW W) [v0, v1, v2] (fun _ _ h => h) hG ⟨a0, a1, a2, trivial⟩).mono fun e W' hQ => ?_
  obtain ⟨s', x, he, hp, hst⟩ := hQ
  have hp : x = .bool true := hp
  subst hp
  subst he
  have bel := hst.below
  have hl : laidOutB Tryz.prog = true := by kernel_rfl
  have hread : Tryz.f4.params.toList.all (fun t => Tryz.prog.readableRec t && decide (t < Tryz.prog.types.size)) = true := by kernel_rfl
  refine ⟨_, rfl, [d0, d1, d2], [], _, [], (p0 ++ (p1 ++ (p2 ++ ([])))), [], hW', ?_, ?_, ?_, bel.frame _, fun h => by cases h⟩
  · exact trodAll_mk1 (shut_bool Tryz.underlying4 _)
  · exact TrodAll_below hl bel _ _ _ _ (fun t ht => by have := List.all_eq_true.1 hread t ht; simpa using this) hA1
  · rfl
theorem Law_fi : (Rows.operatorsArithmeticLawsRow.inPlace == Tryz.pinned.checked.prog.inPlace 4) = true := by kernel_rfl
theorem Law_fu : (Rows.operatorsArithmeticLawsRow.unfollowed == Tryz.pinned.checked.prog.unfollowed 4) = true := by kernel_rfl
theorem Law_fr : (Rows.operatorsArithmeticLawsRow.recurses == Tryz.pinned.checked.prog.recurses 4) = true := by kernel_rfl
theorem Law_fn : (Rows.operatorsArithmeticLawsRow.named == Tryz.pinned.checked.prog.varsNamed 4) = true := by kernel_rfl
theorem Law_facts : joinedFacts Tryz.pinned.checked.prog 4 Tryz.f4 (OpenSpec.ofChange Rows.operatorsArithmeticLawsSpec).bare Rows.operatorsArithmeticLawsRow = true := by
  unfold joinedFacts
  rw [Law_fi, Law_fu, Law_fr, Law_fn]
  kernel_rfl
theorem Law_inst : Tryz.f4.isInstance Tryz.pinned.checked.prog Rows.operatorsArithmeticLawsRow.origin Rows.operatorsArithmeticLawsRow.targs := of_decide_eq_true (by kernel_rfl)
theorem Law_wrap : Tryz.f4.isWrapper Tryz.pinned.checked.prog Rows.operatorsArithmeticLawsRow.wrapper Rows.operatorsArithmeticLawsRow.mainSum := by unfold Func.isWrapper; first | (rw [if_pos (by decide +kernel)]; kernel_rfl) | (rw [if_neg (by decide +kernel)]; exact ⟨rfl, rfl⟩)
theorem Law_named : Tryz.pinned.checked.prog.funcNamed Rows.operatorsArithmeticLawsRow.func = some 4 := by kernel_rfl
theorem Law_looks : false = Tryz.pinned.checked.prog.looks [] := by kernel_rfl
theorem Law_goes : false = Rows.operatorsArithmeticLawsRow.goesBy Tryz.pinned.checked.prog := by kernel_rfl
theorem Law_wf : Rows.operatorsArithmeticLawsRow.wfByText (OpenSpec.ofChange Rows.operatorsArithmeticLawsSpec) = true := by kernel_rfl
theorem Law_main : Tryz.pinned.checked.prog.mainIs = some (Rows.operatorsArithmeticLawsCard.stood.harness.1, Rows.operatorsArithmeticLawsCard.stood.harness.2.toList) := by kernel_rfl
theorem Law_said : Rows.OperatorsArithmeticLawsSaid :=
  OpenClaim.holds_of_cond 4 Tryz.f4 rfl rfl rfl rfl rfl rfl rfl ⟨rfl, rfl, rfl, rfl, rfl⟩ rfl rfl rfl rfl rfl Law_named Tryz.func4 Law_facts Law_inst Law_wrap
    (fun os started H enc _ F => by rw [OpenClaim.pre_eq_preRow]; exact Law_lifted os started H enc F)
theorem Law_plain (f : FuncId) (fn : Func) (hf : Tryz.pinned.checked.prog.funcNamed "brindlewood/brindlewoodlaw7.OperatorsArithmeticLaws" = some f) (hfn : Tryz.pinned.checked.prog.funcs[f]? = some fn) :
    false = Tryz.pinned.checked.prog.looks [] ∧ ∀ (j : Nat) t, fn.params[j]? = some t → Tryz.pinned.checked.prog.wantsStandIn t = false := by
  obtain rfl : f = 4 := Option.some.inj (Law_named.symm.trans hf) |>.symm
  obtain rfl : fn = Tryz.f4 := (Option.some.inj (Tryz.func4.symm.trans hfn)).symm
  refine ⟨Law_looks, fun j t ht => ?_⟩
  rw [Tryz.params4] at ht
  have hm := Array.mem_of_getElem? ht
  simp only [List.mem_toArray, List.mem_cons, List.not_mem_nil, or_false] at hm
  have wv : Tryz.prog.wantsStandIn 26 = false := by kernel_rfl
  rcases hm with rfl | rfl | rfl
  · exact wv
  · exact wv
  · exact wv
theorem Law_holds : Rows.OperatorsArithmeticLawsCardSaid :=
  Claim7.holds_tied_plain_at .later [] _ _ _ _ Law_said (fun _ h => by cases h) Law_wf (fun _ h => by cases h) operatorsArithmeticLaws_row_tie rfl ⟨rfl, rfl⟩ Law_main rfl Law_plain Law_goes
end Go.Proofs.YtnkjenaanjnihaaGreatDoor
