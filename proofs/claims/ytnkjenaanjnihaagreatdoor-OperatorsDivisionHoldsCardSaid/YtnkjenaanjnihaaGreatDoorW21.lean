/- OperatorsDivisionHolds: the given statement. No condition on the arguments; the listed variables start as the program's text lays them. -/
import Derived.Test.YtnkjenaanjnihaaGreatDoorW15
import Derived.Test.YtnkjenaanjnihaaGreatDoorW13
import Derived.Test.YtnkjenaanjnihaaGreatDoorW18
import Derived.Test.YtnkjenaanjnihaaGreatDoorW20
import Derived.Test.YtnkjenaanjnihaaGreatDoorRows
import Derived.ProofKit
import Derived.OpenShut
import Derived.ShutString
import Derived.Deep.Slices
import Derived.Test.YtnkjenaanjnihaaGreatDoorW12
import Derived.Deep.Matrix
import Derived.ChangeOld
import Derived.Below
import Derived.SizedLaws
import Derived.Test.YtnkjenaanjnihaaGreatDoorCards
import Derived.Test.YtnkjenaanjnihaaGreatDoorTie
import Derived.Lib.LaidU8T
import Derived.Deep.DeepHandedRow
import Derived.Deep.DeepWitnessRowRef
import Derived.Lib.LaidTab
import Derived.Shelf.Vars


/- Walks by the evaluator: IntOk, RatioOk, ValueOk of numbers of any size. -/
namespace Go.Proofs.YtnkjenaanjnihaaGreatDoor
open Go.RowKit
variable {md me : Bool}
theorem IntOkW_ok (b : Bool) (l : List Nat) : Fn Tryz.prog 16 [.agg [.v (.bool b), usD l]] (.v (.bool (intOk b l))) := by
  refine fn_ev tabT Tryz.func16 rfl rfl rfl rfl rfl rfl ?_
  intro w0 s0 mx
  refine ev_R tabT [] 100 ?_
  refine ev_R tabT [] 200 ?_
  refine ev_R tabT [] 300 ?_
  refine ev_ret ?_
  exact FinV.ret rfl (SubP.bool (intOk_raw b l))
theorem RatioOkW_ok (b1 b2 : Bool) (l1 l2 : List Nat) (g1 : Lg l1) (g2 : Lg l2) : Fn Tryz.prog 17 [.agg [.v (.bool b1), usD l1, .v (.bool b2), usD l2]] (.v (.bool (ratS b1 l1 b2 l2))) := by
  refine fn_ev tabT Tryz.func17 rfl rfl rfl rfl rfl rfl ?_
  intro w0 s0 mx
  refine ev_R tabT [] 100 ?_
  refine ev_seq ?_
  refine ev_seq (ev_region tabT [] 200 rfl ?_)
  refine sat_go ?_
  refine sat_fn _ (IntOkW_ok b1 l1) rfl ?_
  refine sat_go ?_
  refine sat_fnG _ (fun hg7 => IntOkW_ok b2 l2) rfl ?_
  refine sat_go ?_
  refine sat_done (exS_normal (ev_cond rfl (fun c1 => ?_) (fun c1 => ?_)))
  ·
    refine ev_R tabT [] 300 ?_
    refine ev_ret (exS_ret ?_)
    exact FinV.ret rfl (SubP.bool (by rw [ratS]; have h9 := c1; cases h1 : intOk b1 l1 <;> cases h2 : intOk b2 l2 <;> cases b2 <;> simp_all))
  · have k1 : intOk b1 l1 = true := by
      cases h9 : intOk b1 l1 with
      | true => rfl
      | false => rw [h9] at c1; simp at c1
    have k2 : intOk b2 l2 = true := by
      cases h9 : intOk b2 l2 with
      | true => rfl
      | false => rw [h9] at c1; simp at c1
    have d1 := intOk_dig g1 k1
    have d2 := intOk_dig g2 k2
    have n1 := intOk_len k1
    have n2 := intOk_len k2
    refine ev_skip (exS_normal ?_)
    refine ev_seq (ev_drawn tabT [] [[], [0], [0, 1], [0, 1, 2], [], [4], [4, 5], [0, 1, 2, 3, 4, 5, 6], [0, 1, 2, 3, 4, 5, 6, 7], [0, 1, 2, 3, 4, 5, 6, 7, 8], [0, 1, 2, 3, 4, 5, 6, 7, 8, 9], [0, 1, 2, 3, 4, 5, 6, 7, 8, 9, 10], [0, 1, 2, 3, 4, 5, 6, 7, 8, 9, 10, 11]] 400 mixT (by kernel_rfl) rfl ?_)
    refine sat_go ?_
    refine sat_fn _ (Of3_ok l1 g1 (by omega)) rfl ?_
    refine sat_go ?_
    refine sat_fn _ (Of3_ok l2 g2 (by omega)) rfl ?_
    refine sat_go ?_
    refine sat_fn _ (Common3_ok (VL l1) (VL l2) (by omega) (by omega)) rfl ?_
    refine sat_go ?_
    refine sat_fn _ (Small3_ok 1 (by decide) (by decide)) rfl ?_
    refine sat_go ?_
    refine sat_fn _ (Compare3_ok (Nat.gcd (VL l1) (VL l2)) 1 (by have := gcd_len d1 d2; omega) (by decide +kernel)) rfl ?_
    refine sat_go ?_
    refine sat_done (exS_normal (ev_ret ?_))
    exact FinV.ret rfl (SubP.bool (by rw [ratS, k1, k2]; have h9 := c1; rw [k1, k2] at h9; simp at h9 ⊢; rw [h9.1, decide_eq_true (List.length_pos_iff.2 h9.2)]; exact Bool.eq_iff_iff.2 (by simp)))
theorem ValueOkN_ok (v : Vl) (hk : v.k = 2 ∨ v.k = 3) (g1 : Lg v.nl) (g2 : Lg v.dl) : Fn Tryz.prog 6 [.agg (vlD v)] (.v (.bool (vokS v))) := by
  refine fn_ev tabT Tryz.func6 rfl rfl rfl rfl rfl rfl ?_
  intro w0 s0 mx
  refine ev_R tabT [] 100 ?_
  refine ev_seq (ev_drawn tabT [] [[], [0], [], [0, 1, 2], [], [4], [], [0, 1, 2, 3, 4, 5, 6], [0, 1, 2, 3, 4, 5, 6, 7], [0, 1, 2, 3, 4, 5, 6, 7, 8]] 200 mixT (by kernel_rfl) rfl ?_)
  refine sat_go ?_
  refine sat_fn _ ((SameInt_ok v.nn false v.nl []).args ⟨SubP.refl _, SubP.agg ⟨SubP.refl _, SubP.nilSl rfl, trivial⟩, trivial⟩) rfl ?_
  refine sat_go ?_
  refine sat_fn _ ((SameInt_ok v.dn false v.dl []).args ⟨SubP.refl _, SubP.agg ⟨SubP.refl _, SubP.nilSl rfl, trivial⟩, trivial⟩) rfl ?_
  refine sat_go ?_
  refine sat_done (exS_normal (ev_seq (ev_R tabT [] 300 ?_)))
  refine ev_block (ev_seq (ev_R tabT [] 400 ?_))
  refine ev_if (fun c3 => ?_) (fun c3 => ?_)
  ·
    omega
  ·
    refine ev_Q tabT [] 500 ?_
    refine exS_normal (ev_if (fun c4 => ?_) (fun c4 => ?_))
    ·
      omega
    ·
      refine ev_R tabT [] 700 ?_
      refine ev_if (fun c6 => ?_) (fun c6 => ?_)
      ·
        omega
      ·
        refine ev_R tabT [] 900 ?_
        refine ev_if (fun c8 => ?_) (fun c8 => ?_)
        ·
          refine ev_seq (ev_region tabT [] 1000 rfl ?_)
          refine sat_go ?_
          refine sat_fn _ (IntOkW_ok v.nn v.nl) rfl ?_
          refine sat_go ?_
          refine sat_done (exS_normal (ev_ret (exBl_ret (exS_ret ?_))))
          exact FinV.ret rfl (SubP.bool (by first | (simp only [vokS]; simp_all; done) | (simp [vokS, oneS, emS, zI, shr1, *]; done) | (simp [vokS, oneS, emS, zI, shr1, *]; rfl)))
        ·
          refine ev_R tabT [] 1100 ?_
          refine ev_if (fun c10 => ?_) (fun c10 => ?_)
          ·
            refine ev_R tabT [] 1200 ?_
            refine ev_seq (ev_region tabT [] 1300 rfl ?_)
            refine sat_go ?_
            refine sat_fn _ (RatioOkW_ok v.nn v.dn v.nl v.dl g1 g2) rfl ?_
            refine sat_go ?_
            refine sat_done (exS_normal (ev_ret (exBl_ret (exS_ret ?_))))
            exact FinV.ret rfl (SubP.bool (by first | (simp only [vokS]; simp_all; done) | (simp [vokS, oneS, emS, zI, shr1, *]; done) | (simp [vokS, oneS, emS, zI, shr1, *]; rfl)))
          ·
            omega
end Go.Proofs.YtnkjenaanjnihaaGreatDoor


/- Walks by the evaluator: naturals of the document: Double, Ones, Divide, Times. -/
namespace Go.Proofs.YtnkjenaanjnihaaGreatDoor
open Go.RowKit
variable {md me : Bool}
structure Ti3 (a b : Nat) where
  i : Nat
  o : List Nat
  eq : V o = V ((dig a).take i) * b
  lo : o.length = (dig a).length + (dig b).length + 1
  dg : Dg o
  le : i ≤ (dig a).length
def Ti3.start (a b : Nat) : Ti3 a b := ⟨0, List.replicate ((dig a).length + (dig b).length + 1) 0, by rw [V_zeros, List.take_zero, V_nil, Nat.zero_mul], by simp, Dg_zeros _, Nat.zero_le _⟩
structure Tj3 (a b i : Nat) where
  k : Nat
  c : Nat
  o : List Nat
  eq : V o + c * 65536 ^ (i + k) = V ((dig a).take i) * b + (dig a).getD i 0 * 65536 ^ i * V ((dig b).take k)
  lo : o.length = (dig a).length + (dig b).length + 1
  dg : Dg o
  hc : c < 65536
  le : k ≤ (dig b).length + 1
def Tj3.start {a b : Nat} (x : Ti3 a b) : Tj3 a b x.i := ⟨0, 0, x.o, by simp [V_nil, x.eq], x.lo, x.dg, by decide, Nat.zero_le _⟩
def Tj3.s {a b i : Nat} (y : Tj3 a b i) : Nat := y.o.getD (i + y.k) 0 + y.c + (dig a).getD i 0 * (dig b).getD y.k 0
theorem Dg_at {l : List Nat} (h : Dg l) (i : Nat) : l.getD i 0 < 65536 := by
  rcases Nat.lt_or_ge i l.length with h1 | h1
  · rw [getD_lt h1]; exact h.at h1
  · rw [getD_ge h1]; omega
theorem mul16 {x y : Nat} (hx : x < 65536) (hy : y < 65536) : x * y ≤ 4294836225 := Nat.mul_le_mul (show x ≤ 65535 by omega) (show y ≤ 65535 by omega)
theorem Tj3.s_lt {a b i : Nat} (y : Tj3 a b i) : y.s < 4294967296 := by
  have h1 := Dg_at y.dg (i + y.k)
  have h2 := y.hc
  have h3 := mul16 (dig_at a i) (dig_at b y.k)
  unfold Tj3.s
  omega
theorem Tj3.inn {a b i : Nat} (y : Tj3 a b i) (hi : i < (dig a).length) (h : y.k < (dig b).length ∨ 0 < y.c) : y.k ≤ (dig b).length := by
  rcases h with h | h
  · omega
  · rcases Nat.lt_or_ge (dig b).length y.k with h1 | h1
    · have h2 := y.eq
      rw [List.take_of_length_le (Nat.le_of_lt h1)] at h2
      exact times_in (dig_Dg a) (dig_Dg b) hi h (by rw [h2, V_dig, getD_lt hi])
    · exact h1
def Tj3.next {a b i : Nat} (y : Tj3 a b i) (hi : i < (dig a).length) (h : y.k < (dig b).length ∨ 0 < y.c) : Tj3 a b i :=
  ⟨y.k + 1, y.s / 65536, y.o.set (i + y.k) (y.s % 65536), times_step y.eq (by have := y.inn hi h; rw [y.lo]; omega) (by unfold Tj3.s; rw [getD_lt (l := y.o) (by have := y.inn hi h; rw [y.lo]; omega)]), by rw [List.length_set, y.lo], y.dg.set _ (Nat.mod_lt _ (by decide)), by have := y.s_lt; omega, by have := y.inn hi h; omega⟩
def Tj3.fin {a b : Nat} {x : Ti3 a b} (y : Tj3 a b x.i) (hi : x.i < (dig a).length) (h1 : (dig b).length ≤ y.k) (h2 : y.c = 0) : Ti3 a b := ⟨x.i + 1, y.o, by
  have h3 := y.eq
  rw [List.take_of_length_le h1, h2, Nat.zero_mul, Nat.add_zero, V_dig, getD_lt hi, times_row hi] at h3
  exact h3, y.lo, y.dg, hi⟩
theorem zrowsN (n : Nat) : (MR.map (List.replicate n ()) (fun _ => litS [.int .i64 0]) ()).rows = (MR.map (List.replicate n 0) nD 0).rows := by
  simp only [MR.rows, List.map_replicate]
  rfl
theorem set_rowsN (o : List Nat) (j v : Nat) : (MR.upd (.map o nD 0) j (nD v)).rows = (MR.map (o.set j v) nD 0).rows := by
  simp only [MR.rows, List.map_set]
theorem Times3_ok (a b : Nat) (ha : (dig a).length ≤ 1000000) (hb : (dig b).length ≤ 1000000) : Fn Tryz.prog 47 [natD a, natD b] (natD (a * b)) := by
  refine fn_ev tabT Tryz.func47 rfl rfl rfl rfl rfl rfl ?_
  intro w0 s0 mx
  refine ev_R tabT [] 100 ?_
  refine ev_R tabT [1016] 200 ?_
  refine ev_tell [0, 1] [] 210 [(5, .mo 106 ((dig a).length + (dig b).length + 1))] [(106, .mrow 3 1 (.map (List.replicate ((dig a).length + (dig b).length + 1) 0) nD 0))] ?_
  refine ⟨⟨⟨Sub.mo (by omega), le_t⟩, ⟨SubO.mr (by rw [zrowsN]; congr 3), le_o⟩, rfl, rfl⟩, ?_⟩
  refine ev_seq (ev_R tabT [] 300 ?_)
  refine ev_block ?_
  refine ev_loopK (ι := Ti3 a b) [0, 1, 5] [] 350 (fun x => [(6, .v (.int .i64 (x.i : Nat)))]) (fun x => [(106, .mrow 3 1 (.map x.o nD 0))]) (fun x => (dig a).length - x.i) (Ti3.start _ _) ?_
  refine ⟨⟨le_t, le_o, rfl, rfl⟩, fun x => ?_⟩
  have hk := x.le
  have hlo := x.lo
  have hm : ((dig a).length + (dig b).length + 1) = (MR.map x.o nD 0).len := by rw [MR.len, hlo]
  refine ev_seq (ev_R tabT [] 400 ?_)
  refine ev_if (fun c3 => ?_) (fun c3 => ?_)
  ·
    refine ev_skip (exS_normal (ev_seq (ev_block (ev_R tabT [] 600 ?_))))
    refine ev_R tabT [] 700 ?_
    refine ev_block ?_
    refine ev_loopK (ι := Tj3 a b x.i) [0, 1, 5, 6] [] 750 (fun y => [(8, .v (.int .i64 (y.k : Nat))), (7, .v (.int .i64 (y.c : Nat)))]) (fun y => [(106, .mrow 3 1 (.map y.o nD 0))]) (fun y => (dig b).length + 2 - y.k) (Tj3.start x) ?_
    refine ⟨⟨le_t, le_o, rfl, rfl⟩, fun y => ?_⟩
    have hky := y.le
    have hly := y.lo
    have hm2 : ((dig a).length + (dig b).length + 1) = (MR.map y.o nD 0).len := by rw [MR.len, hly]
    have hj : ((x.i : Int) + (y.k : Int)).toNat = x.i + y.k := by omega
    have hyc := y.hc
    have hyo := Dg_at y.dg (x.i + y.k)
    have hym := mul16 (dig_at a x.i) (dig_at b y.k)
    have hya := dig_at a x.i
    have hyb := dig_at b y.k
    refine ev_seq (ev_R tabT [] 800 ?_)
    refine ev_if (fun c7 => ?_) (fun c7 => ?_)
    ·
      refine ev_skip (exS_normal (ev_seq (ev_block ?_)))
      have hcc : y.k < (dig b).length ∨ 0 < y.c := by omega
      have hin := y.inn c3 hcc
      refine ev_seq (ev_region tabT [] 1000 rfl ?_)
      repeat (first | refine sat_same ?_ | refine sat_impA ?_ | refine sat_need (by first | exact ⟨hm2, by rw [← hm2]; omega⟩ | exact ⟨hm2, by omega⟩ | exact ⟨hm, by rw [← hm]; omega⟩ | exact ⟨hm, by omega⟩ | (simp only [hj, Int.toNat_natCast]; exact ini (by omega) (by omega)) | (simp only [hj, Int.toNat_natCast]; constructor <;> omega) | first | exact trivial | omega | exact ini (by omega) (by omega) | (intro hh; simp at hh; exact ini (by omega) (by omega)) | (intro hh; simp at hh ⊢; omega) | (simp at *; omega) | (simp_all; done)) ?_)
      refine sat_done (exS_normal (ev_seq (ev_R tabT [] 1100 ?_)))
      refine ev_if (fun c10 => ?_) (fun c10 => ?_)
      ·
        refine ev_drawn tabT [] [[], [], [], [1, 2], [1, 2, 3], [], [], [5, 6], [5, 6, 7], [1, 2, 3, 4, 5, 6, 7, 8], [0, 1, 2, 3, 4, 5, 6, 7, 8, 9], [0, 1, 2, 3, 4, 5, 6, 7, 8, 9, 10]] 1200 mixT (by kernel_rfl) rfl ?_
        repeat (first | refine sat_same ?_ | refine sat_impA ?_ | refine sat_need (by first | exact ⟨hm2, by rw [← hm2]; omega⟩ | exact ⟨hm2, by omega⟩ | exact ⟨hm, by rw [← hm]; omega⟩ | exact ⟨hm, by omega⟩ | (simp only [hj, Int.toNat_natCast]; exact ini (by omega) (by omega)) | (simp only [hj, Int.toNat_natCast]; constructor <;> omega) | first | exact trivial | omega | exact ini (by omega) (by omega) | (intro hh; simp at hh; exact ini (by omega) (by omega)) | (intro hh; simp at hh ⊢; omega) | (simp at *; omega) | (simp_all; done)) ?_)
        refine sat_done (exS_normal ?_)
        refine ev_seq (ev_region tabT [] 1300 rfl ?_)
        repeat (first | refine sat_same ?_ | refine sat_impA ?_ | refine sat_need (by first | exact ⟨hm2, by rw [← hm2]; omega⟩ | exact ⟨hm2, by omega⟩ | exact ⟨hm, by rw [← hm]; omega⟩ | exact ⟨hm, by omega⟩ | (simp only [hj, Int.toNat_natCast]; exact ini (by omega) (by omega)) | (simp only [hj, Int.toNat_natCast]; constructor <;> omega) | first | exact trivial | omega | exact ini (by omega) (by omega) | (intro hh; simp at hh; exact ini (by omega) (by omega)) | (intro hh; simp at hh ⊢; omega) | (simp at *; omega) | (simp_all; done)) ?_)
        refine sat_done (exS_normal ?_)
        refine ev_region tabT [] 1400 rfl ?_
        repeat (first | refine sat_same ?_ | refine sat_impA ?_ | refine sat_need (by first | exact ⟨by decide, td_in (by (try simp only [hj, Int.toNat_natCast]); omega) (by (try simp only [hj, Int.toNat_natCast]); omega)⟩ | exact td_in (by (try simp only [hj, Int.toNat_natCast]); omega) (by (try simp only [hj, Int.toNat_natCast]); omega) | first | exact trivial | omega | exact ini (by omega) (by omega) | (intro hh; simp at hh; exact ini (by omega) (by omega)) | (intro hh; simp at hh ⊢; omega) | (simp at *; omega) | (simp_all; done)) ?_)
        refine sat_done (exBl_normal (exS_normal (ev_Q tabT [] 1500 ?_)))
        have hcc : y.k < (dig b).length ∨ 0 < y.c := by omega
        have hjn : x.i + y.k < (dig a).length + (dig b).length + 1 := by have := y.inn c3 hcc; omega
        exact exL_normal (y.next c3 hcc) ⟨(by first | exact trivial | (repeat (first | exact trivial | exact Sub.refl _ | refine ⟨?_, ?_⟩ | exact Sub.int (by first | rfl | omega | (push_cast; omega)) | exact Sub.nilSl | exact Sub.own rfl | exact Sub.slrSl rfl | exact Sub.ownSl (List.map_append).symm | exact Sub.ownSl rfl | exact Sub.int (by show (y.k : Int) + 1 = ((y.k + 1 : Nat) : Int); omega) | exact Sub.int (td_n (by show _ = ((y.o.getD (x.i + y.k) 0 + y.c + (dig a).getD x.i 0 * (dig b).getD y.k 0 : Nat) : Int); (try simp only [hj, Int.toNat_natCast]); push_cast; omega))))), ⟨SubO.mr (by (try simp only [hj]); rw [tm_n (by show _ = ((y.o.getD (x.i + y.k) 0 + y.c + (dig a).getD x.i 0 * (dig b).getD y.k 0 : Nat) : Int); (try simp only [hj, Int.toNat_natCast]); push_cast; omega)]; exact set_rowsN _ _ _), le_o⟩, rfl, rfl⟩ (by show (dig b).length + 2 - (y.k + 1) < (dig b).length + 2 - y.k; omega)
      ·
        refine ev_skip (exS_normal ?_)
        refine ev_seq (ev_region tabT [] 1300 rfl ?_)
        repeat (first | refine sat_same ?_ | refine sat_impA ?_ | refine sat_need (by first | exact ⟨hm2, by rw [← hm2]; omega⟩ | exact ⟨hm2, by omega⟩ | exact ⟨hm, by rw [← hm]; omega⟩ | exact ⟨hm, by omega⟩ | (simp only [hj, Int.toNat_natCast]; exact ini (by omega) (by omega)) | (simp only [hj, Int.toNat_natCast]; constructor <;> omega) | first | exact trivial | omega | exact ini (by omega) (by omega) | (intro hh; simp at hh; exact ini (by omega) (by omega)) | (intro hh; simp at hh ⊢; omega) | (simp at *; omega) | (simp_all; done)) ?_)
        refine sat_done (exS_normal ?_)
        refine ev_region tabT [] 1400 rfl ?_
        repeat (first | refine sat_same ?_ | refine sat_impA ?_ | refine sat_need (by first | exact ⟨by decide, td_in (by (try simp only [hj, Int.toNat_natCast]); omega) (by (try simp only [hj, Int.toNat_natCast]); omega)⟩ | exact td_in (by (try simp only [hj, Int.toNat_natCast]); omega) (by (try simp only [hj, Int.toNat_natCast]); omega) | first | exact trivial | omega | exact ini (by omega) (by omega) | (intro hh; simp at hh; exact ini (by omega) (by omega)) | (intro hh; simp at hh ⊢; omega) | (simp at *; omega) | (simp_all; done)) ?_)
        refine sat_done (exBl_normal (exS_normal (ev_Q tabT [] 1500 ?_)))
        have hcc : y.k < (dig b).length ∨ 0 < y.c := by omega
        have hjn : x.i + y.k < (dig a).length + (dig b).length + 1 := by have := y.inn c3 hcc; omega
        exact exL_normal (y.next c3 hcc) ⟨(by first | exact trivial | (repeat (first | exact trivial | exact Sub.refl _ | refine ⟨?_, ?_⟩ | exact Sub.int (by first | rfl | omega | (push_cast; omega)) | exact Sub.nilSl | exact Sub.own rfl | exact Sub.slrSl rfl | exact Sub.ownSl (List.map_append).symm | exact Sub.ownSl rfl | exact Sub.int (by show (y.k : Int) + 1 = ((y.k + 1 : Nat) : Int); omega) | exact Sub.int (td_n (by show _ = ((y.o.getD (x.i + y.k) 0 + y.c + (dig a).getD x.i 0 * (dig b).getD y.k 0 : Nat) : Int); rw [getD_ge (l := dig b) (by omega), Nat.mul_zero, Nat.add_zero]; (try simp only [hj, Int.toNat_natCast]); push_cast; rfl))))), ⟨SubO.mr (by (try simp only [hj]); rw [tm_n (by show _ = ((y.o.getD (x.i + y.k) 0 + y.c + (dig a).getD x.i 0 * (dig b).getD y.k 0 : Nat) : Int); rw [getD_ge (l := dig b) (by omega), Nat.mul_zero, Nat.add_zero]; (try simp only [hj, Int.toNat_natCast]); push_cast; rfl)]; exact set_rowsN _ _ _), le_o⟩, rfl, rfl⟩ (by show (dig b).length + 2 - (y.k + 1) < (dig b).length + 2 - y.k; omega)
    ·
      refine ev_exit (exS_exit (exL_exit (exBl_same (exBl_normal (exS_normal (ev_Q tabT [] 900 ?_))))))
      exact exL_normal (y.fin c3 (by omega) (by omega)) ⟨(by first | exact trivial | (repeat (first | exact trivial | exact Sub.refl _ | refine ⟨?_, ?_⟩ | exact Sub.int (by first | rfl | omega | (push_cast; omega)) | exact Sub.nilSl | exact Sub.own rfl | exact Sub.slrSl rfl | exact Sub.ownSl (List.map_append).symm | exact Sub.ownSl rfl | exact Sub.int (by show (x.i : Int) + 1 = ((x.i + 1 : Nat) : Int); omega)))), le_o, rfl, rfl⟩ (by show (dig a).length - (x.i + 1) < (dig a).length - x.i; omega)
  ·
    refine ev_exit (exS_exit (exL_exit (exBl_same (exS_normal ?_))))
    refine ev_freeze 106 rfl (by repeat (first | exact trivial | exact hm | refine ⟨?_, ?_⟩)) (by repeat (first | exact trivial | refine ⟨?_, ?_⟩)) ?_
    refine ev_seq (ev_region tabT [] 1500 rfl ?_)
    refine sat_go ?_
    refine sat_fn _ ((trim_ok x.o x.dg (by omega)).args ⟨SubP.ownSl rfl, trivial⟩) rfl ?_
    refine sat_go ?_
    refine sat_done (exS_normal (ev_ret ?_))
    have e := x.eq
    rw [List.take_of_length_le (by omega), V_dig] at e
    exact FinV.ret rfl (SubP.of_eq (by rw [e]))
end Go.Proofs.YtnkjenaanjnihaaGreatDoor


/- Walks by the evaluator: integers and ranges of the document. -/
namespace Go.Proofs.YtnkjenaanjnihaaGreatDoor
open Go.RowKit
variable {md me : Bool}
theorem dig_mulL {x y k m : Nat} (hx : (dig x).length ≤ k) (hy : (dig y).length ≤ m) : (dig (x * y)).length ≤ k + m := by
  have h1 := Nat.lt_of_lt_of_le (dig_lt x) (Nat.pow_le_pow_right (by decide) hx)
  have h2 := Nat.lt_of_lt_of_le (dig_lt y) (Nat.pow_le_pow_right (by decide) hy)
  refine dig_length_le ?_
  rw [Nat.pow_add]
  exact Nat.mul_lt_mul'' h1 h2
theorem dig_1l : (dig 1).length = 1 := dig_1
theorem IntTimes_ok (b1 b2 : Bool) (n1 n2 : Nat) (h1 : (dig n1).length ≤ 1000000) (h2 : (dig n2).length ≤ 1000000) : Fn Tryz.prog 25 [rD b1 n1, rD b2 n2] (rD ((b1 != b2) && decide (0 < n1 * n2)) (n1 * n2)) := by
  refine fn_ev tabT Tryz.func25 rfl rfl rfl rfl rfl rfl ?_
  intro w0 s0 mx
  refine ev_R tabT [] 100 ?_
  refine ev_seq (ev_region tabT [] 200 rfl ?_)
  refine sat_go ?_
  refine sat_fn _ (Times3_ok _ _ (by first | assumption | omega | (simp_all; done)) (by first | assumption | omega | (simp_all; done))) rfl ?_
  refine sat_go ?_
  refine sat_done (exS_normal (ev_R tabT [] 300 ?_))
  refine ev_ret ?_
  exact FinV.ret rfl (SubP.agg ⟨SubP.bool (by rw [dig_len]), SubP.refl _, trivial⟩)
end Go.Proofs.YtnkjenaanjnihaaGreatDoor


/- The heap of the built-in classes alone is usable. Plain. -/
namespace Go.Proofs.YtnkjenaanjnihaaGreatDoor
open Go.RowKit
end Go.Proofs.YtnkjenaanjnihaaGreatDoor


/- Walks by the evaluator: the laws of statements 41 and 42. -/
namespace Go.Proofs.YtnkjenaanjnihaaGreatDoor
open Go.RowKit
variable {md me : Bool}
theorem opQ_k {z : Int} {d : Nat} (h : (Qr.opQ z d).k = 0) : Qr.opQ z d = vlS (Qr.opQ z d).v := by
  by_cases f : Qr.fits z d = true
  · rw [opQ_yes f]; rfl
  · rw [opQ_no (by simpa using f)] at h
    exact absurd h (by decide)
theorem fl_k {a b : Vl} (h : (Qr.flS a b).k = 0) : Qr.flS a b = vlS (Qr.flS a b).v := by
  unfold Qr.flS at h ⊢
  split
  · rename_i e; rw [if_pos e] at h; exact absurd h (by decide)
  · rename_i e; rw [if_neg e] at h; exact opQ_k h
theorem md_k {a b : Vl} (h : (Qr.mdS a b).k = 0) : Qr.mdS a b = vlS (Qr.mdS a b).v := by
  unfold Qr.mdS at h ⊢
  split
  · rename_i e; rw [if_pos e] at h; exact absurd h (by decide)
  · rename_i e; rw [if_neg e] at h; exact opQ_k h
theorem nm_in {v : Vl} (p : Qr.Nm v) : (Lg v.nl ∧ v.nl.length ≤ 128) ∧ Lg v.dl ∧ v.dl.length ≤ 128 := by
  refine ⟨⟨?_, ?_⟩, ?_⟩
  · rw [(nm_n p).2]; exact lim_Dg _
  · rw [(nm_n p).2]; exact p.q.nl
  · rcases p.k with h | h
    · have e : v.dl = [] := (congrArg Vl.dl p.e).trans (by unfold Qr.vQ; rw [if_pos (nm_d2 p h)]; rfl)
      rw [e]
      exact ⟨Lg.nil, by decide⟩
    · rw [(nm_d3 p h).2]
      exact ⟨lim_Dg _, p.q.dl⟩
theorem nm_V {v : Vl} (p : Qr.Nm v) : VL v.nl = (Qr.nV v).natAbs := by rw [(nm_n p).2, L_dig]
theorem nm_sg {v : Vl} (p : Qr.Nm v) : (v.nn && decide (0 < VL v.nl)) = decide (Qr.nV v < 0) := by
  rw [(nm_n p).1, nm_V p]
  by_cases h : Qr.nV v < 0
  · rw [decide_eq_true h, decide_eq_true (show 0 < (Qr.nV v).natAbs by omega)]; rfl
  · rw [decide_eq_false h]; rfl
theorem dg_V {l : List Nat} (hg : Lg l) (h : l.length ≤ 128) : (dig (VL l)).length ≤ 300 := Nat.le_trans (dig_length_le (by
  have := L_lt hg
  rw [Nat.pow_mul]
  exact this)) (show 2 * l.length ≤ 300 by omega)
theorem dg_d {v : Vl} (p : Qr.Nm v) : (dig (if v.k = 3 then VL v.dl else 1)).length ≤ 300 := by
  split
  · have := nm_in p; exact dg_V this.2.1 this.2.2
  · rw [dig_1l]; decide
theorem res5_ok (a b : Vl) (p : Qr.Nm a) (q : Qr.Nm b) : Fn Tryz.prog 7 [.v (.int .i64 5), .agg (vlD a), .agg (vlD b)] (.tup [.agg (vlD (Qr.addS a b).v), .v (.bool (decide ((Qr.addS a b).k = 0)))]) := by
  refine fn_ev tabT Tryz.func7 rfl rfl rfl rfl rfl rfl ?_
  intro w0 s0 mx
  refine ev_R tabT [] 100 ?_
  refine ev_seq (ev_region tabT [] 200 rfl ?_)
  refine sat_go ?_
  refine sat_fn _ (Begin_ok) rfl ?_
  refine sat_go ?_
  refine sat_done (exS_normal ?_)
  refine ev_seq (ev_region tabT [] 300 rfl ?_)
  refine sat_go ?_
  refine sat_fnL _ (opBin5_ok (bgS 49) a b p q) rfl rfl ?_
  refine sat_go ?_
  refine sat_done (exS_normal ?_)
  refine ev_seq (ev_drawn tabT [] [[], [0], [0, 1], [], [3], [3, 4], [3, 4, 5], [0, 1, 2], [0, 1, 2, 3, 4, 5, 6, 7]] 400 mixT (by kernel_rfl) rfl ?_)
  refine sat_go ?_
  refine sat_done (exS_normal (ev_ret ?_))
  exact FinV.ret rfl (SubP.refl _)
theorem res7_ok (a b : Vl) (p : Qr.Nm a) (q : Qr.Nm b) : Fn Tryz.prog 7 [.v (.int .i64 7), .agg (vlD a), .agg (vlD b)] (.tup [.agg (vlD (Qr.mulS a b).v), .v (.bool (decide ((Qr.mulS a b).k = 0)))]) := by
  refine fn_ev tabT Tryz.func7 rfl rfl rfl rfl rfl rfl ?_
  intro w0 s0 mx
  refine ev_R tabT [] 100 ?_
  refine ev_seq (ev_region tabT [] 200 rfl ?_)
  refine sat_go ?_
  refine sat_fn _ (Begin_ok) rfl ?_
  refine sat_go ?_
  refine sat_done (exS_normal ?_)
  refine ev_seq (ev_region tabT [] 300 rfl ?_)
  refine sat_go ?_
  refine sat_fnL _ (opBin7_ok (bgS 49) a b p q) rfl rfl ?_
  refine sat_go ?_
  refine sat_done (exS_normal ?_)
  refine ev_seq (ev_drawn tabT [] [[], [0], [0, 1], [], [3], [3, 4], [3, 4, 5], [0, 1, 2], [0, 1, 2, 3, 4, 5, 6, 7]] 400 mixT (by kernel_rfl) rfl ?_)
  refine sat_go ?_
  refine sat_done (exS_normal (ev_ret ?_))
  exact FinV.ret rfl (SubP.refl _)
theorem res9_ok (a b : Vl) (p : Qr.Nm a) (q : Qr.Nm b) : Fn Tryz.prog 7 [.v (.int .i64 9), .agg (vlD a), .agg (vlD b)] (.tup [.agg (vlD (Qr.flS a b).v), .v (.bool (decide ((Qr.flS a b).k = 0)))]) := by
  refine fn_ev tabT Tryz.func7 rfl rfl rfl rfl rfl rfl ?_
  intro w0 s0 mx
  refine ev_R tabT [] 100 ?_
  refine ev_seq (ev_region tabT [] 200 rfl ?_)
  refine sat_go ?_
  refine sat_fn _ (Begin_ok) rfl ?_
  refine sat_go ?_
  refine sat_done (exS_normal ?_)
  refine ev_seq (ev_region tabT [] 300 rfl ?_)
  refine sat_go ?_
  refine sat_fnL _ (opBin9_ok (bgS 49) a b p q) rfl rfl ?_
  refine sat_go ?_
  refine sat_done (exS_normal ?_)
  refine ev_seq (ev_drawn tabT [] [[], [0], [0, 1], [], [3], [3, 4], [3, 4, 5], [0, 1, 2], [0, 1, 2, 3, 4, 5, 6, 7]] 400 mixT (by kernel_rfl) rfl ?_)
  refine sat_go ?_
  refine sat_done (exS_normal (ev_ret ?_))
  exact FinV.ret rfl (SubP.refl _)
theorem res10_ok (a b : Vl) (p : Qr.Nm a) (q : Qr.Nm b) : Fn Tryz.prog 7 [.v (.int .i64 10), .agg (vlD a), .agg (vlD b)] (.tup [.agg (vlD (Qr.mdS a b).v), .v (.bool (decide ((Qr.mdS a b).k = 0)))]) := by
  refine fn_ev tabT Tryz.func7 rfl rfl rfl rfl rfl rfl ?_
  intro w0 s0 mx
  refine ev_R tabT [] 100 ?_
  refine ev_seq (ev_region tabT [] 200 rfl ?_)
  refine sat_go ?_
  refine sat_fn _ (Begin_ok) rfl ?_
  refine sat_go ?_
  refine sat_done (exS_normal ?_)
  refine ev_seq (ev_region tabT [] 300 rfl ?_)
  refine sat_go ?_
  refine sat_fnL _ (opBin10_ok (bgS 49) a b p q) rfl rfl ?_
  refine sat_go ?_
  refine sat_done (exS_normal ?_)
  refine ev_seq (ev_drawn tabT [] [[], [0], [0, 1], [], [3], [3, 4], [3, 4, 5], [0, 1, 2], [0, 1, 2, 3, 4, 5, 6, 7]] 400 mixT (by kernel_rfl) rfl ?_)
  refine sat_go ?_
  refine sat_done (exS_normal (ev_ret ?_))
  exact FinV.ret rfl (SubP.refl _)
theorem rfZero_ok (b : Bool) (n : Nat) : Fn Tryz.prog 9 [rD b n] (.v (.bool (decide (n = 0)))) := by
  have hz := dig_len0 n
  refine fn_ev tabT Tryz.func9 rfl rfl rfl rfl rfl rfl ?_
  intro w0 s0 mx
  refine ev_R tabT [] 100 ?_
  refine ev_R tabT [] 200 ?_
  refine ev_ret ?_
  exact FinV.ret rfl (SubP.bool (decide_eq_decide.2 (by omega)))
theorem rfNeg_ok (b : Bool) (n : Nat) : Fn Tryz.prog 10 [rD b n] (.v (.bool (b && decide (0 < n)))) := by
  have hz := dig_len0 n
  refine fn_ev tabT Tryz.func10 rfl rfl rfl rfl rfl rfl ?_
  intro w0 s0 mx
  refine ev_R tabT [] 100 ?_
  refine ev_R tabT [] 200 ?_
  refine ev_ret ?_
  exact FinV.ret rfl (SubP.bool (by rw [decide_eq_decide.2 (show (0 < ((dig n).length : Int)) ↔ 0 < n by omega)]))
theorem rfAbs_ok (b : Bool) (n d : Nat) : Fn Tryz.prog 11 [qD b n d] (qD false n d) := by
  refine fn_ev tabT Tryz.func11 rfl rfl rfl rfl rfl rfl ?_
  intro w0 s0 mx
  refine ev_R tabT [] 100 ?_
  refine ev_R tabT [] 200 ?_
  refine ev_ret ?_
  exact FinV.ret rfl (SubP.refl _)
theorem IntOrder0_ok (n m : Nat) (h1 : (dig n).length ≤ 1000000) (h2 : (dig m).length ≤ 1000000) : Fn Tryz.prog 26 [rD false n, rD false m] (.v (.int .i64 (cmpN n m))) := by
  refine fn_ev tabT Tryz.func26 rfl rfl rfl rfl rfl rfl ?_
  intro w0 s0 mx
  refine ev_R tabT [] 100 ?_
  refine ev_seq (ev_drawn tabT [] [[], [0], [0, 1], [0, 1, 2], [0, 1, 2, 3], [0, 1, 2, 3, 4], [0, 1, 2, 3, 4, 5], [0, 1, 2, 3, 4, 5, 6], [], [8], [0, 1, 2, 8, 9], [0, 1, 2, 8, 9, 10], [0, 1, 2, 8, 9, 10, 11], [0, 1, 2, 8, 9, 10, 11, 12], [0, 1, 2, 8, 9, 10, 11, 12, 13], [0, 1, 2, 8, 9, 10, 11, 12, 13, 14], [0, 1, 2, 3, 4, 5, 6, 7, 8, 9, 10], [0, 1, 2, 3, 4, 5, 6, 7, 8, 9, 10, 11, 12, 13, 14, 15, 16]] 200 mixT (by kernel_rfl) rfl ?_)
  refine sat_go ?_
  refine sat_done (exS_normal (ev_seq (ev_block (ev_R tabT [] 300 ?_))))
  refine ev_if (fun c2 => ?_) (fun c2 => ?_)
  ·
    simp at c2
  ·
    refine ev_R tabT [] 500 ?_
    refine ev_if (fun c4 => ?_) (fun c4 => ?_)
    ·
      simp at c4
    ·
      refine ev_R tabT [] 700 ?_
      refine ev_if (fun c6 => ?_) (fun c6 => ?_)
      ·
        simp at c6
      ·
        refine ev_skip (exBl_normal (exS_normal ?_))
        refine ev_seq (ev_region tabT [] 900 rfl ?_)
        refine sat_go ?_
        refine sat_fn _ (Compare3_ok n m (by omega) (by omega)) rfl ?_
        refine sat_go ?_
        refine sat_done (exS_normal (ev_ret ?_))
        exact FinV.ret rfl (SubP.refl _)
theorem times_ff (n m : Nat) (h1 : (dig n).length ≤ 1000000) (h2 : (dig m).length ≤ 1000000) : Fn Tryz.prog 25 [rD false n, rD false m] (rD false (n * m)) := IntTimes_ok false false n m h1 h2
theorem RatOrder0_ok (n d m e : Nat) (h1 : (dig n).length ≤ 300) (h2 : (dig d).length ≤ 300) (h3 : (dig m).length ≤ 300) (h4 : (dig e).length ≤ 300) : Fn Tryz.prog 12 [qD false n d, qD false m e] (.v (.int .i64 (cmpN (n * e) (m * d)))) := by
  have k1 := dig_mulL h1 h4
  have k2 := dig_mulL h3 h2
  refine fn_ev tabT Tryz.func12 rfl rfl rfl rfl rfl rfl ?_
  intro w0 s0 mx
  refine ev_R tabT [] 100 ?_
  refine ev_seq (ev_drawn tabT [] [[], [0], [], [2], [2, 3], [0, 1, 2, 3, 4], [], [6], [], [8], [8, 9], [0, 1, 2, 3, 4, 5, 6, 7, 8, 9, 10], [0, 1, 2, 3, 4, 5, 6, 7, 8, 9, 10, 11], [0, 1, 2, 3, 4, 5, 6, 7, 8, 9, 10, 11, 12]] 200 mixT (by kernel_rfl) rfl ?_)
  refine sat_go ?_
  refine sat_fn _ (times_ff n e (by omega) (by omega)) rfl ?_
  refine sat_go ?_
  refine sat_fn _ (times_ff m d (by omega) (by omega)) rfl ?_
  refine sat_go ?_
  refine sat_fn _ (IntOrder0_ok _ _ (by omega) (by omega)) rfl ?_
  refine sat_go ?_
  refine sat_done (exS_normal (ev_ret ?_))
  exact FinV.ret rfl (SubP.refl _)
theorem Law41_ok (a b : Vl) (ga : Lg a.nl ∧ Lg a.dl) (gb : Lg b.nl ∧ Lg b.dl) : Fn Tryz.prog 3 [.agg (vlD a), .agg (vlD b)] (.v (.bool true)) := by
  refine fn_ev tabT Tryz.func3 rfl rfl rfl rfl rfl rfl ?_
  intro w0 s0 mx
  refine ev_R tabT [] 100 ?_
  refine ev_seq ?_
  refine ev_seq (ev_region tabT [] 200 rfl ?_)
  refine sat_go ?_
  refine sat_fn _ (IsNumber_ok a) rfl ?_
  refine sat_go ?_
  refine sat_fnG _ (fun hg5 => IsNumber_ok b) rfl ?_
  refine sat_go ?_
  refine sat_fnG _ (fun hg10 => ValueOkN_ok a (by simp at hg10; omega) ga.1 ga.2) rfl ?_
  refine sat_go ?_
  refine sat_fnG _ (fun hg15 => ValueOkN_ok b (by simp at hg15; omega) gb.1 gb.2) rfl ?_
  refine sat_go ?_
  refine sat_done (exS_normal (ev_cond rfl (fun c1 => ?_) (fun c1 => ?_)))
  ·
    refine ev_R tabT [] 300 ?_
    refine ev_ret (exS_ret ?_)
    exact FinV.ret rfl (SubP.refl _)
  · simp at c1
    have pa : Qr.Nm a := Qr.nm_of ga.1 ga.2 (by have h9 := c1.1.1.1; omega) c1.1.2
    have pb : Qr.Nm b := Qr.nm_of gb.1 gb.2 (by have h9 := c1.1.1.2; omega) c1.2
    refine ev_skip (exS_normal ?_)
    refine ev_seq (ev_region tabT [] 400 rfl ?_)
    refine sat_go ?_
    refine sat_fn _ (res9_ok a b pa pb) rfl ?_
    refine sat_go ?_
    refine sat_done (exS_normal ?_)
    refine ev_seq (ev_region tabT [] 500 rfl ?_)
    refine sat_go ?_
    refine sat_fn _ (res10_ok a b pa pb) rfl ?_
    refine sat_go ?_
    refine sat_done (exS_normal (ev_seq (ev_R tabT [] 600 ?_)))
    refine ev_cond rfl (fun c5 => ?_) (fun c5 => ?_)
    ·
      refine ev_R tabT [] 700 ?_
      refine ev_ret (exS_ret ?_)
      exact FinV.ret rfl (SubP.refl _)
    · simp at c5
      obtain ⟨hb0, pq, pr, hq2, hsg, hlt, hm⟩ := Qr.law41 pa pb (fl_k c5.1) (md_k c5.2)
      rw [← nm_V pb, ← nm_V pr] at hlt
      have ib := nm_in pb
      have ir := nm_in pr
      have g1 := dg_V ib.1.1 ib.1.2
      have g2 := dg_V ir.1.1 ir.1.2
      have g3 := dg_d pb
      have g4 := dg_d pr
      have hcm := cmp_lt hlt
      refine ev_skip (exS_normal ?_)
      refine ev_seq (ev_drawn tabT [] [[], [0], [], [0, 1, 2], [], [], [0, 1, 2, 3, 4, 5], [0, 1, 2, 3, 4, 5, 6]] 800 mixT (by kernel_rfl) rfl ?_)
      refine sat_go ?_
      refine sat_fn _ (Number7_ok b (nm_in pb).1.1 (by have := (nm_in pb).1.2; omega) (nm_in pb).2.1 (by have := (nm_in pb).2.2; omega)) rfl ?_
      refine sat_go ?_
      refine sat_fn _ (Number7_ok (Qr.mdS a b).v (nm_in pr).1.1 (by have := (nm_in pr).1.2; omega) (nm_in pr).2.1 (by have := (nm_in pr).2.2; omega)) rfl ?_
      refine sat_go ?_
      refine sat_done (exS_normal (ev_seq ?_))
      refine ev_seq (ev_drawn tabT [] [[], [0], [0, 1], [0, 1, 2], [0, 1, 2, 3], [0, 1, 2, 3, 4], [0, 1, 2, 3, 4, 5], [0, 1, 2, 3, 4, 5, 6], [0, 1, 2, 3, 4, 5, 6, 7], [0, 1, 2, 3, 4, 5, 6, 7, 8], [0, 1, 2, 3, 4, 5, 6, 7, 8, 9], [0, 1, 2, 3, 4, 5, 6, 7, 8, 9, 10], [0, 1, 2, 3, 4, 5, 6, 7, 8], [0, 1, 2, 3, 4, 5, 6, 7, 8, 12], [0, 1, 2, 3, 4, 5, 6, 7, 8, 9, 10, 11, 12, 13], [0, 1, 2, 3, 4, 5, 6, 7, 8, 9, 10, 11, 12, 13, 14], [0, 1, 2, 3, 4, 5, 6, 7, 8, 9, 10, 11, 12, 13, 14, 15], [0, 1, 2, 3, 4, 5, 6, 7, 8, 9, 10, 11, 12, 13, 14, 15, 16], [0, 1, 2, 3, 4, 5, 6, 7, 8, 9, 10, 11, 12, 13, 14, 15, 16, 17], [0, 1, 2, 3, 4, 5, 6, 7, 8, 9, 10, 11, 12, 13, 14, 15, 16, 17, 18], [0, 1, 2, 3, 4, 5, 6, 7, 8, 9, 10, 11, 12, 13, 14, 15, 16, 17, 18, 19], [0, 1, 2, 3, 4, 5, 6, 7, 8, 9, 10, 11, 12, 13, 14, 15, 16, 17, 18], [0, 1, 2, 3, 4, 5, 6, 7, 8, 9, 10, 11, 12, 13, 14, 15, 16, 17, 18, 19, 20, 21], [0, 1, 2, 3, 4, 5, 6, 7, 8, 9, 10, 11, 12, 13, 14, 15, 16, 17, 18, 19, 20, 21, 22], [0, 1, 2, 3, 4, 5, 6, 7, 8, 9, 10, 11, 12, 13, 14, 15, 16, 17, 18, 19, 20, 21, 22, 23], [0, 1, 2, 3, 4, 5, 6, 7, 8, 9, 10, 11, 12, 13, 14, 15, 16, 17, 18, 19, 20, 21, 22, 23, 24]] 900 mixT (by kernel_rfl) rfl ?_)
      refine sat_go ?_
      refine sat_fnG _ (fun hg6 => rfZero_ok _ _) rfl ?_
      refine sat_go ?_
      refine sat_fnG _ (fun hg11 => rfNeg_ok _ _) rfl ?_
      refine sat_go ?_
      refine sat_fnG _ (fun hg14 => rfNeg_ok _ _) rfl ?_
      refine sat_go ?_
      refine sat_fnG _ (fun hg20 => rfAbs_ok _ _ _) rfl ?_
      refine sat_go ?_
      refine sat_fnG _ (fun hg22 => rfAbs_ok _ _ _) rfl ?_
      refine sat_go ?_
      refine sat_fnG _ (fun hg23 => RatOrder0_ok _ _ _ _ g2 g4 g1 g3) rfl ?_
      refine sat_go ?_
      refine sat_done (exS_normal (ev_if (fun c8 => ?_) (fun c8 => ?_)))
      ·
        exfalso
        rcases c8 with (h | ⟨h1, h2⟩) | h
        · exact h hq2
        · rw [nm_sg pr, nm_sg pb] at h2
          have h4 : decide (Qr.nV (Qr.mdS a b).v < 0) = decide (Qr.nV b < 0) := decide_eq_decide.2 (hsg (fun e => h1 (by rw [nm_V pr, e]; rfl)))
          rw [h4] at h2
          simp at h2
        · have h : (0 : Int) ≤ cmpN (VL (Qr.mdS a b).v.nl * Qr.dV b) (VL b.nl * Qr.dV (Qr.mdS a b).v) := h
          rw [hcm] at h
          exact absurd h (by decide)
      ·
        refine ev_skip (exS_normal ?_)
        refine ev_seq (ev_region tabT [] 1100 rfl ?_)
        refine sat_go ?_
        refine sat_fn _ (res7_ok (Qr.flS a b).v b pq pb) rfl ?_
        refine sat_go ?_
        refine sat_done (exS_normal (ev_seq (ev_R tabT [] 1200 ?_)))
        refine ev_cond rfl (fun c11 => ?_) (fun c11 => ?_)
        ·
          refine ev_R tabT [] 1300 ?_
          refine ev_ret (exS_ret ?_)
          exact FinV.ret rfl (SubP.refl _)
        · have hk : (Qr.mulS (Qr.flS a b).v b).k = 0 := by simpa using c11
          have pm := (Qr.mul_ok pq pb hk).1
          have hs := hm (show (Qr.mulS (Qr.flS a b).v b) = vlS (Qr.mulS (Qr.flS a b).v b).v from opQ_k hk)
          refine ev_skip (exS_normal ?_)
          refine ev_seq (ev_region tabT [] 1400 rfl ?_)
          refine sat_go ?_
          refine sat_fn _ (res5_ok (Qr.mulS (Qr.flS a b).v b).v (Qr.mdS a b).v pm pr) rfl ?_
          refine sat_go ?_
          refine sat_done (exS_normal ?_)
          refine ev_seq (ev_region tabT [] 1500 rfl ?_)
          refine sat_go ?_
          refine sat_fnG _ (fun hg4 => SameValue_ok _ _) rfl ?_
          refine sat_go ?_
          refine sat_done (exS_normal (ev_ret ?_))
          exact FinV.ret rfl (SubP.bool (by rw [hs]; simp [vlS]))
end Go.Proofs.YtnkjenaanjnihaaGreatDoor


/- Arguments opened: what a reading of a value, an object, a heap gives as data. -/
namespace Go.Proofs.YtnkjenaanjnihaaGreatDoor
open Go.ChangeShapes Go.WideShapes Go.ChangeAt Go.RowKit Go.Deep
theorem bulk_mem {H : Type} {d : DataW H} {l : List (DataW H)} (h : d ∈ l) : Rows.uptoBulk d ≤ Rows.uptoBulkAll l := by
  induction l with
  | nil => cases h
  | cons x r ih =>
    simp only [Rows.uptoBulkAll]
    cases List.mem_cons.1 h with
    | inl e => subst e; omega
    | inr e => have := ih e; omega
theorem bulk_one {H : Type} (d : DataW H) : 1 ≤ Rows.uptoBulk d := by
  cases d with
  | lit l => cases l <;> simp [Rows.uptoBulk]
  | nil => simp [Rows.uptoBulk]
  | ptr d => simp [Rows.uptoBulk]
  | slice elems spare => simp [Rows.uptoBulk]
  | agg parts => simp [Rows.uptoBulk]
  | iface t d => simp [Rows.uptoBulk]
  | map entries => simp [Rows.uptoBulk]
  | held h => simp [Rows.uptoBulk]
theorem bulk_length {H : Type} (l : List (DataW H)) : l.length ≤ Rows.uptoBulkAll l := by
  induction l with
  | nil => simp [Rows.uptoBulkAll]
  | cons x r ih => have := bulk_one x; simp only [Rows.uptoBulkAll, List.length_cons]; omega
theorem part_bulk {H : Type} {l : List (DataW H × List MemPlace)} {i : Nat} {y : DataW H × List MemPlace} (h : l[i]? = some y) {n : Nat} (hn : Rows.uptoBulk (DataW.agg (l.map (·.1))) ≤ n) : Rows.uptoBulk y.1 ≤ n := by
  have h1 : y.1 ∈ l.map (·.1) := List.mem_map.2 ⟨y, List.mem_of_getElem? h, rfl⟩
  have h2 := bulk_mem h1
  simp only [Rows.uptoBulk] at hn
  omega
def sW (W : World) : Sb := ⟨fun b _ => b < W.heap.size, fun b _ => b < W.heap.size, fun _ _ h => h⟩
def I64 (x : Int) : Prop := -9223372036854775808 ≤ x ∧ x ≤ 9223372036854775807
theorem i64_wf {x : Int} (h : (Lit.int .i64 x).wf = true) : I64 x := by
  simp [Lit.wf] at h
  have h1 : IntKind.i64.min = -9223372036854775808 := by decide
  have h2 : IntKind.i64.max = 9223372036854775807 := by decide
  unfold I64
  omega
theorem u32_wf {x : Int} (h : (Lit.int .u32 x).wf = true) : 0 ≤ x ∧ x < 4294967296 := by
  simp [Lit.wf] at h
  have h1 : IntKind.u32.min = 0 := by decide
  have h2 : IntKind.u32.max = 4294967295 := by decide
  omega
def Opn {H : Type} (enc : TypeId × Value → H) (P : Program) (W : World) (t : TypeId) {α : Type} (f : α → List D) (Q : α → Nat → Prop) : Prop :=
  ∀ (fuel : Nat) (cs : List Value) (d : DataW H) (ps : List MemPlace), cs.length = P.cellsOf t → DataW.trod enc P W 0 (fun _ => true) true fuel t cs = some (d, ps) →
    ∃ x, AllV W (sW W) (D.pvs (f x)) cs ∧ (∀ c ∈ cs, c.oneCell' = true) ∧ ∀ n, Rows.uptoBulk d ≤ n → Q x n
section
variable {H : Type} {enc : TypeId × Value → H} {P : Program} {W : World}
theorem one_mem {c : Value} (h : c.oneCell' = true) : ∀ x ∈ [c], x.oneCell' = true := fun x hx => by rw [List.mem_singleton] at hx; rw [hx]; exact h
theorem Opn.int {t : TypeId} (ht : P.underlying t = some (.int .i64)) : Opn enc P W t iD (fun x _ => I64 x) := by
  intro fuel cs d ps _ h
  obtain ⟨k, rfl, _, wf⟩ := DataW.trod_int ht h
  exact ⟨k, ⟨rfl, trivial⟩, one_mem rfl, fun _ _ => i64_wf wf⟩
theorem Opn.u32 {t : TypeId} (ht : P.underlying t = some (.int .u32)) : Opn enc P W t uD (fun x _ => x < 4294967296) := by
  intro fuel cs d ps _ h
  obtain ⟨k, rfl, _, wf⟩ := DataW.trod_int ht h
  have h1 := u32_wf wf
  refine ⟨k.toNat, ⟨?_, trivial⟩, one_mem rfl, fun _ _ => by omega⟩
  show Value.int .u32 k = .int .u32 (k.toNat : Nat)
  rw [Int.toNat_of_nonneg h1.1]
theorem Opn.bool {t : TypeId} (ht : P.underlying t = some .bool) : Opn enc P W t (fun b : Bool => [.v (.bool b)]) (fun _ _ => True) := by
  intro fuel cs d ps _ h
  obtain ⟨k, rfl, _⟩ := DataW.trod_bool ht h
  exact ⟨k, ⟨rfl, trivial⟩, one_mem rfl, fun _ _ => trivial⟩
theorem Opn.str {t : TypeId} (ht : P.underlying t = some .string) : Opn enc P W t sD (fun s n => s.size ≤ n) := by
  intro fuel cs d ps _ h
  obtain ⟨k, rfl, hx, _⟩ := DataW.trod_string ht h
  refine ⟨k, ⟨rfl, trivial⟩, one_mem rfl, fun n hn => ?_⟩
  simp only [Prod.mk.injEq] at hx
  rw [hx.1] at hn
  simp only [Rows.uptoBulk] at hn
  have e : k.data.toList.length = k.size := by rw [Array.length_toList]; rfl
  omega
theorem Opn.sl {α : Type} {f : α → List D} {Q : α → Nat → Prop} {t e : TypeId} {sz : Nat} (e0 : α) (ht : P.underlying t = some (.slice e)) (hc : P.cellsOf e = sz) (hz : 0 < sz) (he : Opn enc P W e f Q) :
    Opn enc P W t (fun l => [.sl false sz l f e0]) (fun l n => l.length ≤ n ∧ ∀ x ∈ l, Q x n) := by
  intro fuel cs d ps _ h
  rcases open_slice ht h with ⟨rfl, hx⟩ | ⟨a, len, cap, m, n, D', Pl, rfl, _, hl, hm, hmm, hx, hel⟩
  · exact ⟨[], ⟨PV.sl_nil, trivial⟩, one_mem rfl, fun _ _ => ⟨Nat.zero_le _, fun x hx => by cases hx⟩⟩
  · simp only [if_true] at hmm
    subst hmm
    have hq : ∀ i, i < len → ∃ x : α, ∃ cs', W.cells? 0 (a.add (i * sz)) sz = some cs' ∧ AllV W (sW W) (D.pvs (f x)) cs' ∧ (∀ c ∈ cs', c.oneCell' = true) ∧ ∀ n, Rows.uptoBulk (D' i) ≤ n → Q x n := fun i hi => by
      obtain ⟨cs', h1, h2⟩ := hel i (by omega)
      rw [hc] at h1
      obtain ⟨_, hlen, _⟩ := World.cells?_some h1
      obtain ⟨x, hx1, hx2, hx3⟩ := he n cs' (D' i) (Pl i) (by omega) h2
      exact ⟨x, cs', h1, hx1, hx2, hx3⟩
    obtain ⟨g, hg⟩ : ∃ g : Nat → α, ∀ i, i < len → ∃ cs', W.cells? 0 (a.add (i * sz)) sz = some cs' ∧ AllV W (sW W) (D.pvs (f (g i))) cs' ∧ (∀ c ∈ cs', c.oneCell' = true) ∧ ∀ n, Rows.uptoBulk (D' i) ≤ n → Q (g i) n :=
      ⟨fun i => if h : i < len then Classical.choose (hq i h) else e0, fun i hi => by simp only [dif_pos hi]; exact Classical.choose_spec (hq i hi)⟩
    have hrl : (((List.range len).map g).map fun a => D.pvs (f a)).length = len := by simp
    refine ⟨(List.range len).map g, ⟨⟨some a, m, ?_, ?_, ?_, ?_, ?_⟩, trivial⟩, one_mem rfl, fun n hn => ?_⟩
    · show Value.slice (some a) len m = Value.slice (some a) (((List.range len).map g).map fun a => D.pvs (f a)).length m
      rw [hrl]
    · show (((List.range len).map g).map fun a => D.pvs (f a)).length ≤ m
      rw [hrl]; exact hl
    · have : maxLen = 9223372036854775807 := by decide
      omega
    · intro row hrow
      have hrow : row ∈ ((List.range len).map g).map fun a => D.pvs (f a) := hrow
      rw [List.map_map] at hrow
      obtain ⟨i, hi, rfl⟩ := List.mem_map.1 hrow
      obtain ⟨cs', h1, h2, -⟩ := hg i (List.mem_range.1 hi)
      have h3 := h2.length
      obtain ⟨_, h4, _⟩ := World.cells?_some h1
      show (D.pvs (f (g i))).length = sz
      omega
    · intro i row hrow
      have hrow : (((List.range len).map g).map fun a => D.pvs (f a))[i]? = some row := hrow
      rw [List.map_map, List.getElem?_map] at hrow
      obtain ⟨j, hj, rfl⟩ := Option.map_eq_some_iff.1 hrow
      have hi : i < len := by have := (List.getElem?_eq_some_iff.1 hj).1; simpa using this
      rw [List.getElem?_range hi] at hj
      cases hj
      obtain ⟨cs', h1, h2, h3, -⟩ := hg i hi
      obtain ⟨_, h4, h5⟩ := World.cells?_some h1
      obtain ⟨b, off, spot⟩ := a
      cases spot with
      | some sp =>
        obtain ⟨cs0, k1, -⟩ := hg 0 (by omega)
        obtain ⟨_, k4, k5⟩ := World.cells?_some k1
        have h6 := k5 0 hz
        rw [List.getElem?_eq_getElem (by omega)] at h6
        have := World.cell?_spot h6
        simp [Addr.add] at this
      | none =>
        refine ⟨b, off, rfl, fun j d hd => ?_⟩
        obtain ⟨v, hv, hp⟩ := h2.get hd
        have hj : j < cs'.length := (List.getElem?_eq_some_iff.1 hv).1
        have h6 := h5 j (by omega)
        rw [hv] at h6
        have h7 : W.cell? ⟨b, off + i * sz + j, none⟩ = some v := by rw [add_plain, add_plain] at h6; exact h6
        exact ⟨v, h7, (World.block_lt_of_cell? _ _ h7 : b < W.heap.size), hp, h3 v (List.mem_of_getElem? hv)⟩
    · simp only [Prod.mk.injEq] at hx
      rw [hx.1] at hn
      simp only [Rows.uptoBulk] at hn
      have h1 := bulk_length ((List.range len).map D')
      simp only [List.length_map, List.length_range] at h1
      refine ⟨by simp; omega, fun x hx => ?_⟩
      obtain ⟨i, hi, rfl⟩ := List.mem_map.1 hx
      obtain ⟨cs', -, -, -, h4⟩ := hg i (List.mem_range.1 hi)
      exact h4 n (by have := bulk_mem (d := D' i) (l := (List.range len).map D') (List.mem_map.2 ⟨i, hi, rfl⟩); omega)
end
theorem list5 {α : Type} {l : List α} (h : l.length = 5) : ∃ c0 c1 c2 c3 c4, l = [c0, c1, c2, c3, c4] := by
  match l, h with
  | [c0, c1, c2, c3, c4], _ => exact ⟨c0, c1, c2, c3, c4, rfl⟩
theorem list7 {α : Type} {l : List α} (h : l.length = 7) : ∃ c0 c1 c2 c3 c4 c5 c6, l = [c0, c1, c2, c3, c4, c5, c6] := by
  match l, h with
  | [c0, c1, c2, c3, c4, c5, c6], _ => exact ⟨c0, c1, c2, c3, c4, c5, c6, rfl⟩
theorem allV_of1 {W : World} {s : Sb} {d : D} {c : Value} (h : AllV W s (D.pvs [d]) [c]) : d.pv.p W s c := h.1
section
variable {H : Type} {enc : TypeId × Value → H} {W : World}
def intD (p : Bool × List Nat) : List D := [.v (.bool p.1), usD p.2]
set_option maxRecDepth 100000 in
theorem Opn.bigI : Opn enc Tryz.prog W 24 intD (fun p n => p.2.length ≤ n ∧ ∀ x ∈ p.2, x < 4294967296) := by
  intro fuel cs d ps hl h
  have e4 : Tryz.prog.cellsOf 4 = 1 := by kernel_rfl
  have e22 : Tryz.prog.cellsOf 22 = 1 := by kernel_rfl
  have eI : Tryz.prog.cellsOf 24 = 2 := by kernel_rfl
  rw [eI] at hl
  match cs, hl with
  | [c0, c1], _ =>
    obtain ⟨xs, n1, _, hx, _, hlen, hg⟩ := DataW.trod_struct Tryz.underlying24 h
    match xs, hlen with
    | [y0, y1], _ =>
      have g0 : DataW.trod enc Tryz.prog W 0 (fun _ => true) true n1 4 (([c0, c1].drop 0).take (Tryz.prog.cellsOf 4)) = some y0 := hg 0 _ rfl
      rw [e4] at g0
      replace g0 : DataW.trod enc Tryz.prog W 0 (fun _ => true) true n1 4 [c0] = some y0 := g0
      have g1 : DataW.trod enc Tryz.prog W 0 (fun _ => true) true n1 22 (([c0, c1].drop 1).take (Tryz.prog.cellsOf 22)) = some y1 := hg 1 _ rfl
      rw [e22] at g1
      replace g1 : DataW.trod enc Tryz.prog W 0 (fun _ => true) true n1 22 [c1] = some y1 := g1
      obtain ⟨x0, a0, o0, q0⟩ := Opn.bool Tryz.underlying4 _ _ y0.1 y0.2 (by rw [e4]; rfl) g0
      obtain ⟨x1, a1, o1, q1⟩ := Opn.sl 0 Tryz.underlying22 (sz := 1) (by kernel_rfl) (by decide) (Opn.u32 Tryz.underlying48) _ _ y1.1 y1.2 (by rw [e22]; rfl) g1
      simp only [Prod.mk.injEq] at hx
      refine ⟨(x0, x1), ⟨allV_of1 a0, allV_of1 a1, trivial⟩, fun c hc => ?_, fun n hn => ?_⟩
      · simp only [List.mem_cons, List.not_mem_nil, or_false] at hc
        rcases hc with rfl | rfl
        · exact o0 _ (by simp)
        · exact o1 _ (by simp)
      · rw [hx.1] at hn
        exact q1 n (part_bulk (i := 1) (y := y1) rfl hn)
theorem Opn.agg {P : Program} {α : Type} {f : α → List D} {Q : α → Nat → Prop} {t : TypeId} {fs : Array Field} {base : Nat} (ho : Opn enc P W t f Q) (ht : P.underlying t = some (.struct fs)) {v : Value} {d : DataW H} {ps : List MemPlace}
    (hv : Value.okWide P W .any base t v) (h : DataW.Trod enc P W 0 (fun _ => true) true t v d ps) :
    ∃ x, (D.agg (f x)).pv.p W (sW W) v ∧ ∀ n, Rows.uptoBulk d ≤ n → Q x n := by
  obtain ⟨cs, rfl, hsz⟩ := okWide_struct ht hv
  obtain ⟨l⟩ := cs
  obtain ⟨fuel, hf⟩ := h
  obtain ⟨x, h1, -, h3⟩ := ho fuel l d ps hsz hf
  exact ⟨x, ⟨l, rfl, h1⟩, h3⟩
end
end Go.Proofs.YtnkjenaanjnihaaGreatDoor


/- A value of any size, read out. -/
namespace Go.Proofs.YtnkjenaanjnihaaGreatDoor
open Go.ChangeShapes Go.WideShapes Go.ChangeAt Go.RowKit Go.Deep
section
variable {H : Type} {enc : TypeId × Value → H} {W : World}
set_option maxRecDepth 100000 in
theorem Opn.valW : Opn enc Tryz.prog W 26 vlD (fun v _ => Lg v.nl ∧ Lg v.dl) := by
  intro fuel cs d ps hl h
  have e3 : Tryz.prog.cellsOf 3 = 1 := by kernel_rfl
  have e9 : Tryz.prog.cellsOf 9 = 1 := by kernel_rfl
  have e24 : Tryz.prog.cellsOf 24 = 2 := by kernel_rfl
  have eV : Tryz.prog.cellsOf 26 = 7 := by kernel_rfl
  rw [eV] at hl
  obtain ⟨c0, c1, c2, c3, c4, c5, c6, rfl⟩ := list7 hl
  obtain ⟨xs, n1, _, hx, _, hlen, hg⟩ := DataW.trod_struct Tryz.underlying26 h
  obtain ⟨y0, y1, y2, y3, y4, rfl⟩ := list5 hlen
  have g0 : DataW.trod enc Tryz.prog W 0 (fun _ => true) true n1 3 (([c0, c1, c2, c3, c4, c5, c6].drop 0).take (Tryz.prog.cellsOf 3)) = some y0 := hg 0 _ rfl
  rw [e3] at g0
  replace g0 : DataW.trod enc Tryz.prog W 0 (fun _ => true) true n1 3 [c0] = some y0 := g0
  have g1 : DataW.trod enc Tryz.prog W 0 (fun _ => true) true n1 24 (([c0, c1, c2, c3, c4, c5, c6].drop 1).take (Tryz.prog.cellsOf 24)) = some y1 := hg 1 _ rfl
  rw [e24] at g1
  replace g1 : DataW.trod enc Tryz.prog W 0 (fun _ => true) true n1 24 [c1, c2] = some y1 := g1
  have g2 : DataW.trod enc Tryz.prog W 0 (fun _ => true) true n1 24 (([c0, c1, c2, c3, c4, c5, c6].drop 3).take (Tryz.prog.cellsOf 24)) = some y2 := hg 2 _ rfl
  rw [e24] at g2
  replace g2 : DataW.trod enc Tryz.prog W 0 (fun _ => true) true n1 24 [c3, c4] = some y2 := g2
  have g3 : DataW.trod enc Tryz.prog W 0 (fun _ => true) true n1 9 (([c0, c1, c2, c3, c4, c5, c6].drop 5).take (Tryz.prog.cellsOf 9)) = some y3 := hg 3 _ rfl
  rw [e9] at g3
  replace g3 : DataW.trod enc Tryz.prog W 0 (fun _ => true) true n1 9 [c5] = some y3 := g3
  have g4 : DataW.trod enc Tryz.prog W 0 (fun _ => true) true n1 3 (([c0, c1, c2, c3, c4, c5, c6].drop 6).take (Tryz.prog.cellsOf 3)) = some y4 := hg 4 _ rfl
  rw [e3] at g4
  replace g4 : DataW.trod enc Tryz.prog W 0 (fun _ => true) true n1 3 [c6] = some y4 := g4
  obtain ⟨x0, a0, o0, q0⟩ := Opn.int Tryz.underlying3 _ _ y0.1 y0.2 (by rw [e3]; rfl) g0
  obtain ⟨x1, a1, o1, q1⟩ := Opn.bigI _ _ y1.1 y1.2 (by rw [e24]; rfl) g1
  obtain ⟨x2, a2, o2, q2⟩ := Opn.bigI _ _ y2.1 y2.2 (by rw [e24]; rfl) g2
  obtain ⟨x3, a3, o3, q3⟩ := Opn.str Tryz.underlying9 _ _ y3.1 y3.2 (by rw [e9]; rfl) g3
  obtain ⟨x4, a4, o4, q4⟩ := Opn.int Tryz.underlying3 _ _ y4.1 y4.2 (by rw [e3]; rfl) g4
  simp only [Prod.mk.injEq] at hx
  refine ⟨⟨x0, x1.1, x1.2, x2.1, x2.2, x3, x4⟩, ⟨allV_of1 a0, a1.1, a1.2.1, a2.1, a2.2.1, allV_of1 a3, allV_of1 a4, trivial⟩, fun c hc => ?_, fun n hn => ?_⟩
  · simp only [List.mem_cons, List.not_mem_nil, or_false] at hc
    rcases hc with rfl | rfl | rfl | rfl | rfl | rfl | rfl
    · exact o0 _ (by simp)
    · exact o1 _ (by simp)
    · exact o1 _ (by simp)
    · exact o2 _ (by simp)
    · exact o2 _ (by simp)
    · exact o3 _ (by simp)
    · exact o4 _ (by simp)
  · rw [hx.1] at hn
    have b1 := q1 n (part_bulk (i := 1) (y := y1) rfl hn)
    have b2 := q2 n (part_bulk (i := 2) (y := y2) rfl hn)
    exact ⟨b1.2, b2.2⟩
end
end Go.Proofs.YtnkjenaanjnihaaGreatDoor


/- Arguments opened: a reading of a value gives a list. -/
namespace Go.Proofs.YtnkjenaanjnihaaGreatDoor
open Go.ChangeShapes Go.WideShapes Go.ChangeAt Go.RowKit Go.Deep
end Go.Proofs.YtnkjenaanjnihaaGreatDoor


/- From a walk that says 'the call returns true and writes nothing that was there' to a given row of the kind 'it returns true and leaves its arguments alone'. For any number of parameters. -/
namespace Go.Proofs.YtnkjenaanjnihaaGreatDoor
open Go.ChangeShapes Go.WideShapes Go.ChangeAt Go.RowKit
theorem TrodAll_below {H : Type} {enc : TypeId × Value → H} {P : Program} (hl : laidOutB P = true) {W W' : World} (hb : Below W.heap.size W W') :
    ∀ (ts : List TypeId) (vs : List Value) (ds : List (DataW H)) (ps : List MemPlace), (∀ t ∈ ts, P.readableRec t = true ∧ t < P.types.size) →
      DataW.TrodAll enc P W 0 (fun _ => true) true ts vs ds ps → DataW.TrodAll enc P W' 0 (fun b => decide (b < W.heap.size)) true ts vs ds ps
  | [], [], [], ps, _, h => h
  | t :: ts, v :: vs, d :: ds, ps, hr, h => by
    obtain ⟨p, q, hp, hq, e⟩ := h
    have lt : ∀ x ∈ p, x.block < W.heap.size := by obtain ⟨m, hm⟩ := hp; exact DataW.trod_lt m _ _ _ hm
    have ht := hr t (by simp)
    exact ⟨p, q, Below.trod hl ht.1 ht.2 hp hb lt, TrodAll_below hl hb ts vs ds q (fun x hx => hr x (by simp [hx])) hq, e⟩
  | [], [], _ :: _, _, _, h => by simp [DataW.TrodAll] at h
  | [], _ :: _, _, _, _, h => by simp [DataW.TrodAll] at h
  | _ :: _, [], _, _, _, h => by simp [DataW.TrodAll] at h
  | _ :: _, _ :: _, [], _, _, h => by simp [DataW.TrodAll] at h
end Go.Proofs.YtnkjenaanjnihaaGreatDoor


/- OperatorsDivisionHolds: the given statement. No condition on the arguments; the listed variables start as the program's text lays them. -/
namespace Go.Proofs.YtnkjenaanjnihaaGreatDoor
open Go.ChangeShapes Go.WideShapes Go.ChangeAt Go.RowKit Go.Shelf
theorem Law_own : ownKnob Tryz.prog.godebug = none := by kernel_rfl
theorem accept_same : (Rows.laid_unicode_utf8_acceptRanges : DataW Unit) = Lib.acceptData := by kernel_rfl
theorem first_same : (Rows.laid_unicode_utf8_first : DataW Unit) = Lib.firstData := by kernel_rfl
theorem space_same : (Rows.laid_strings_asciiSpace : DataW Unit) = Lib.tabData .u8 Lib.asciiSpaceTab := by kernel_rfl
theorem Law_glob {W : World} (hL : laidMetH Tryz.prog Rows.operatorsDivisionHoldsRow.laid W) (hs : W.ShapedOpen Tryz.prog) : Glb W (sW W) := by
  have h3 : Lib.VarReads Tryz.prog W "unicode/utf8.first" Rows.laid_unicode_utf8_first := Lib.laidMet.reads hL (.tail _ (.tail _ (.tail _ (.head _))))
  have h4 : Lib.VarReads Tryz.prog W "unicode/utf8.acceptRanges" Rows.laid_unicode_utf8_acceptRanges := Lib.laidMet.reads hL (.head _)
  have h5 : Lib.VarReads Tryz.prog W "strings.asciiSpace" Rows.laid_strings_asciiSpace := Lib.laidMet.reads hL (.tail _ (.tail _ (.head _)))
  rw [first_same] at h3
  rw [accept_same] at h4
  rw [space_same] at h5
  have hT : Lib.Utf8Tabs 0 1 W := utf8Tabs_of_readsT (U8Types.of196 Tryz.laysValid) ⟨by kernel_rfl, by kernel_rfl, by kernel_rfl, by kernel_rfl, by kernel_rfl, by kernel_rfl, by kernel_rfl⟩ h3 h4
  have hS : Lib.TabIs Tryz.prog W "strings.asciiSpace" .u8 Lib.asciiSpaceTab := by
    obtain ⟨g, t, cs, fuel, p, hg, hty, hvar, hd⟩ := h5
    obtain rfl := Option.some.inj ((show Tryz.prog.globalNamed "strings.asciiSpace" = some 2 by kernel_rfl).symm.trans hg)
    obtain rfl := Option.some.inj ((show (Tryz.prog.globals[2]?).map (·.type) = some 75 by kernel_rfl).symm.trans hty)
    have := Lib.cells_of_tab Tryz.underlying75 Tryz.underlying5 (by kernel_rfl) (by kernel_rfl) hd
    unfold Lib.TabIs
    rw [hvar, ← this]
  have hM := Go.Proofs.cell_of_shapedOpen_int (g := 4) (t := 3) (zero := #[.int .i64 0]) hs (of_decide_eq_true (by kernel_rfl)) (by kernel_rfl) rfl (by kernel_rfl) (by kernel_rfl) Tryz.underlying3
  refine ⟨fun b o => W.cell? ⟨b, o, none⟩, ⟨hM, fun c hc => hT.1 c hc, fun i hi => hT.2 i hi, fun c hc => ?_⟩, fun b o v hv => ⟨hv, World.block_lt_of_cell? _ _ hv⟩, fun b o h => by cases h⟩
  show W.cell? ⟨2, c, none⟩ = _
  rw [hS.cell (by kernel_rfl) c (by rw [Lib.asciiSpaceTab_length]; exact hc), Lib.asciiSpaceTab_at c hc]
noncomputable def Law_world (os : Os) : World :=
  let N := (World.settled Tryz.prog os).heap.size
  let w0 := World.holding Tryz.prog os ⟨#[.cells (Lib.whiteT.map fun (z : Nat) => Value.int .u16 (z : Int)).toArray 163, .cells #[.slice (some ⟨N, 0, none⟩) 7 7, .slice none 0 0, .int .i64 2] 160], #[], []⟩
  let put (h : Array Obj) (g : Nat) (cs : Array Value) : Array Obj := h.modify g fun
    | .cells _ t frozen => .cells cs t frozen
    | o => o
  let h1 := put w0.heap 2 (Lib.asciiSpaceTab.map fun z => Value.int .u8 z).toArray
  let h2 := put h1 0 (Lib.firstTab.map fun z => Value.int .u8 z).toArray
  let h3 := put h2 1 ((List.range 16).flatMap fun i => [Value.int .u8 (Lib.accLo i), Value.int .u8 (Lib.accHi i)]).toArray
  let h4 := put h3 3 #[.pointer (some ⟨N + 1, 0, none⟩)]
  { w0 with heap := h4 }
def Law_arg : Array Value := #[.agg #[.int .i64 0, .bool false, .slice none 0 0, .bool false, .slice none 0 0, .string ⟨#[]⟩, .int .i64 0], .agg #[.int .i64 0, .bool false, .slice none 0 0, .bool false, .slice none 0 0, .string ⟨#[]⟩, .int .i64 0]]
theorem Law_met (os : Os) : laidMet Tryz.prog Rows.operatorsDivisionHoldsRow.laid ((Law_world os).forCall (fun _ _ => 0) ⟨#[], Law_arg, []⟩).memory :=
  laidMet_of_run' 10 (by kernel_rfl) (by kernel_rfl)
theorem Law_row (os : Os) {H : Type} (enc : TypeId × Value → H) :
    (OpenSpec.ofChange Rows.operatorsDivisionHoldsSpec).preRow enc Tryz.prog Tryz.f3 Rows.operatorsDivisionHoldsRow.domain false Rows.operatorsDivisionHoldsRow.laid ((Law_world os).forCall (fun _ _ => 0) ⟨#[], Law_arg, []⟩).memory Law_arg := by
  have hw : (DataW.whole enc Tryz.prog ((Law_world os).forCall (fun _ _ => 0) ⟨#[], Law_arg, []⟩).memory Tryz.f3.params.toList Rows.operatorsDivisionHoldsSpec.vars false Law_arg.toList 8).map (fun x => (x.1, x.2.1)) =
      some ([.agg [.lit (.int .i64 0), .agg [.lit (.bool false), .nil], .agg [.lit (.bool false), .nil], .lit (.string []), .lit (.int .i64 0)], .agg [.lit (.int .i64 0), .agg [.lit (.bool false), .nil], .agg [.lit (.bool false), .nil], .lit (.string []), .lit (.int .i64 0)]], []) := by kernel_rfl
  obtain ⟨⟨x1, x2, x3⟩, hx, hx1⟩ := Option.map_eq_some_iff.1 hw
  simp only [Prod.mk.injEq] at hx1
  obtain ⟨rfl, rfl⟩ := hx1
  exact OpenSpec.preRow_of_cond 8 hx (by kernel_rfl) (fun k hk => by cases hk) (by kernel_rfl) (Law_met os)
set_option maxRecDepth 100000 in
set_option maxHeartbeats 2000000 in
theorem Law_lifted (os : Os) (started : os.Started) (H : Type) (enc : TypeId × Value → H) (F : Stop.Interp) :
    ReturnsInHanded {} Tryz.checked os 3 .any ((OpenSpec.ofChange Rows.operatorsDivisionHoldsSpec).preRow enc Tryz.prog Tryz.f3 Rows.operatorsDivisionHoldsRow.domain false Rows.operatorsDivisionHoldsRow.laid) (((OpenSpec.ofChange Rows.operatorsDivisionHoldsSpec).at F).post enc Tryz.prog Tryz.f3 false true false false) := by
  refine returnsInHanded_of_row (C := Tryz.checked) (s := OpenSpec.ofChange Rows.operatorsDivisionHoldsSpec) Law_own started (by kernel_rfl) Tryz.func3
    (witness_row_atRef (enc := enc) (C := Tryz.checked) false (Law_world os) Law_arg rfl (by kernel_rfl) (by kernel_rfl) (by kernel_rfl) (Law_row os enc)) ?_
  intro W base args ds gs before hval0 hW _ hk _ hL hS _
  have hval : ∀ (j : Nat) t v, Tryz.f3.params[j]? = some t → args[j]? = some v → Value.okWide Tryz.prog W .any base t v := hval0
  have hW' := hW
  obtain ⟨p, q, hA0, hV, rfl, hfz, hnd⟩ := hW
  have hA : DataW.TrodAll enc Tryz.prog W 0 (fun _ => true) true Tryz.f3.params.toList args.toList ds p := hA0
  obtain ⟨rfl, rfl⟩ := trodVars_none hV
  have hA1 := hA
  rw [Tryz.params3] at hA hval
  obtain ⟨v0, vs0, d0, ds0, p0, q0, hargs, rfl, rfl, h0, r0⟩ := trodAll_cons hA
  obtain ⟨v1, vs1, d1, ds1, p1, q1, rfl, rfl, rfl, h1, r1⟩ := trodAll_cons r0
  obtain ⟨rfl, rfl, rfl⟩ := trodAll_nil r1
  obtain rfl : args = #[v0, v1] := by cases args; simp_all
  obtain ⟨x0, a0, i0⟩ := Opn.agg Opn.valW Tryz.underlying26 (hval 0 26 v0 rfl rfl) h0
  obtain ⟨x1, a1, i1⟩ := Opn.agg Opn.valW Tryz.underlying26 (hval 1 26 v1 rfl rfl) h1
  have hG := Law_glob hL hS
  refine ((Law41_ok x0 x1 (i0 _ (Nat.le_refl _)) (i1 _ (Nat.le_refl _))).2 W (sW W) [v0, v1] (fun _ _ h => h) hG ⟨a0, a1, trivial⟩).mono fun e W' hQ => ?_
  obtain ⟨s', x, he, hp, hst⟩ := hQ
  have hp : x = .bool true := hp
  subst hp
  subst he
  have bel := hst.below
  have hl : laidOutB Tryz.prog = true := by kernel_rfl
  have hread : Tryz.f3.params.toList.all (fun t => Tryz.prog.readableRec t && decide (t < Tryz.prog.types.size)) = true := by kernel_rfl
  refine ⟨_, rfl, [d0, d1], [], _, [], (p0 ++ (p1 ++ ([]))), [], hW', ?_, ?_, ?_, bel.frame _, fun h => by cases h⟩
  · exact trodAll_mk1 (shut_bool Tryz.underlying4 _)
  · exact TrodAll_below hl bel _ _ _ _ (fun t ht => by have := List.all_eq_true.1 hread t ht; simpa using this) hA1
  · rfl
theorem Law_fi : (Rows.operatorsDivisionHoldsRow.inPlace == Tryz.pinned.checked.prog.inPlace 3) = true := by kernel_rfl
theorem Law_fu : (Rows.operatorsDivisionHoldsRow.unfollowed == Tryz.pinned.checked.prog.unfollowed 3) = true := by kernel_rfl
theorem Law_fr : (Rows.operatorsDivisionHoldsRow.recurses == Tryz.pinned.checked.prog.recurses 3) = true := by kernel_rfl
theorem Law_fn : (Rows.operatorsDivisionHoldsRow.named == Tryz.pinned.checked.prog.varsNamed 3) = true := by kernel_rfl
theorem Law_facts : joinedFacts Tryz.pinned.checked.prog 3 Tryz.f3 (OpenSpec.ofChange Rows.operatorsDivisionHoldsSpec).bare Rows.operatorsDivisionHoldsRow = true := by
  unfold joinedFacts
  rw [Law_fi, Law_fu, Law_fr, Law_fn]
  kernel_rfl
theorem Law_inst : Tryz.f3.isInstance Tryz.pinned.checked.prog Rows.operatorsDivisionHoldsRow.origin Rows.operatorsDivisionHoldsRow.targs := of_decide_eq_true (by kernel_rfl)
theorem Law_wrap : Tryz.f3.isWrapper Tryz.pinned.checked.prog Rows.operatorsDivisionHoldsRow.wrapper Rows.operatorsDivisionHoldsRow.mainSum := by unfold Func.isWrapper; first | (rw [if_pos (by decide +kernel)]; kernel_rfl) | (rw [if_neg (by decide +kernel)]; exact ⟨rfl, rfl⟩)
theorem Law_named : Tryz.pinned.checked.prog.funcNamed Rows.operatorsDivisionHoldsRow.func = some 3 := by kernel_rfl
theorem Law_looks : false = Tryz.pinned.checked.prog.looks [] := by kernel_rfl
theorem Law_goes : false = Rows.operatorsDivisionHoldsRow.goesBy Tryz.pinned.checked.prog := by kernel_rfl
theorem Law_wf : Rows.operatorsDivisionHoldsRow.wfByText (OpenSpec.ofChange Rows.operatorsDivisionHoldsSpec) = true := by kernel_rfl
theorem Law_main : Tryz.pinned.checked.prog.mainIs = some (Rows.operatorsDivisionHoldsCard.stood.harness.1, Rows.operatorsDivisionHoldsCard.stood.harness.2.toList) := by kernel_rfl
theorem Law_said : Rows.OperatorsDivisionHoldsSaid :=
  OpenClaim.holds_of_cond 3 Tryz.f3 rfl rfl rfl rfl rfl rfl rfl ⟨rfl, rfl, rfl, rfl, rfl⟩ rfl rfl rfl rfl rfl Law_named Tryz.func3 Law_facts Law_inst Law_wrap
    (fun os started H enc _ F => by rw [OpenClaim.pre_eq_preRow]; exact Law_lifted os started H enc F)
theorem Law_plain (f : FuncId) (fn : Func) (hf : Tryz.pinned.checked.prog.funcNamed "brindlewood/brindlewoodlaw7.OperatorsDivisionHolds" = some f) (hfn : Tryz.pinned.checked.prog.funcs[f]? = some fn) :
    false = Tryz.pinned.checked.prog.looks [] ∧ ∀ (j : Nat) t, fn.params[j]? = some t → Tryz.pinned.checked.prog.wantsStandIn t = false := by
  obtain rfl : f = 3 := Option.some.inj (Law_named.symm.trans hf) |>.symm
  obtain rfl : fn = Tryz.f3 := (Option.some.inj (Tryz.func3.symm.trans hfn)).symm
  refine ⟨Law_looks, fun j t ht => ?_⟩
  rw [Tryz.params3] at ht
  have hm := Array.mem_of_getElem? ht
  simp only [List.mem_toArray, List.mem_cons, List.not_mem_nil, or_false] at hm
  have wv : Tryz.prog.wantsStandIn 26 = false := by kernel_rfl
  rcases hm with rfl | rfl
  · exact wv
  · exact wv
theorem Law_holds : Rows.OperatorsDivisionHoldsCardSaid :=
  Claim7.holds_tied_plain_at .later [] _ _ _ _ Law_said (fun _ h => by cases h) Law_wf (fun _ h => by cases h) operatorsDivisionHolds_row_tie rfl ⟨rfl, rfl⟩ Law_main rfl Law_plain Law_goes
end Go.Proofs.YtnkjenaanjnihaaGreatDoor
