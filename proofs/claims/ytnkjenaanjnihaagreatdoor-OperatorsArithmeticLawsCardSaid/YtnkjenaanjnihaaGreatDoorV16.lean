/- Part 16 of the proof. -/
import Derived.Test.YtnkjenaanjnihaaGreatDoorV15


/- Walks by the evaluator: naturals of the program: add, mul, short. -/
namespace Go.Proofs.YtnkjenaanjnihaaGreatDoor
open Go.RowKit
variable {md me : Bool}
theorem hi32 {e : Int} {s : Nat} (h : e = (s : Int)) : Int.fdiv e (2 ^ min (Int.toNat 32) IntKind.u64.bits) = ((s / 4294967296 : Nat) : Int) := by rw [h]; exact fdiv_pow (by decide)
theorem lo32 {e : Int} {s : Nat} (h : e = (s : Int)) : IntKind.u32.wrap e = ((s % 4294967296 : Nat) : Int) := by
  rw [h]
  simp only [IntKind.wrap, IntKind.signed, IntKind.bits, Bool.false_and, Bool.false_eq_true, if_false]
  omega
theorem uD_snoc {l : List Nat} {y : Nat} {e : Int} (h : e = (y : Int)) : l.map uD ++ [[.v (.int .u32 e)]] = (l ++ [y]).map uD := by rw [List.map_append, h]; rfl
theorem plL_s {a b : List Nat} (x : PlL a b) {e : Int} (h : e = (x.c : Int) + ((a.getD x.k 0 : Nat) : Int) + ((b.getD x.k 0 : Nat) : Int)) : e = ((x.s : Nat) : Int) := by
  rw [h]
  unfold PlL.s
  omega
theorem natAdd0_ok (a b : Nat) (ha : (lim a).length ≤ 100000) (hb : (lim b).length ≤ 100000) : Fn Tryz.prog 146 [usD (lim a), usD (lim b)] (usD (lim (a + b))) := by
  refine fn_ev tabT Tryz.func146 rfl rfl rfl rfl rfl rfl ?_
  intro w0 s0 mx
  refine ev_R tabT [] 100 ?_
  refine ev_seq (ev_R tabT [] 200 ?_)
  refine ev_if (fun c1 => ?_) (fun c1 => ?_)
  ·
    refine ev_Q tabT [] 300 ?_
    refine exS_normal (ev_R tabT [1019] 400 ?_)
    refine ev_freeze 303 rfl (by repeat (first | exact trivial | exact rfl | refine ⟨?_, ?_⟩)) (by repeat (first | exact trivial | refine ⟨?_, ?_⟩)) ?_
    refine ev_R tabT [] 500 ?_
    refine ev_seq (ev_R tabT [] 600 ?_)
    refine ev_block ?_
    refine ev_loopK (ι := PlL (lim b) (lim a)) [1, 20, 21] [] 650 (fun x => [(22, .v (.int .i64 (x.k : Nat))), (6, .v (.int .u64 (x.c : Nat))), (5, .own 303 1 (x.o.map uD))]) (fun x => [(303, .row 48 1 (x.o.map uD).length)]) (fun x => (lim b).length - x.k) (PlL.start _ _) ?_
    refine ⟨⟨le_t, le_o, rfl, rfl⟩, fun x => ?_⟩
    have hk := x.le
    have hk2 := x.lo
    have hk3 := x.hc
    have hk4 := lg_at (lim_Dg b) x.k
    have hk5 := lg_at (lim_Dg a) x.k
    refine ev_R tabT [] 700 ?_
    refine ev_seq (ev_if (fun c6 => ?_) (fun c6 => ?_))
    ·
      refine ev_skip (exS_normal (ev_seq (ev_block (ev_R tabT [] 800 ?_))))
      refine ev_R tabT [] 900 ?_
      refine ev_seq (ev_R tabT [] 1000 ?_)
      refine ev_if (fun c9 => ?_) (fun c9 => ?_)
      ·
        refine ev_Q tabT [] 1100 ?_
        refine exS_normal (ev_R tabT [] 1200 ?_)
        refine ev_Q tabT [] 1300 ?_
        refine exBl_normal (exS_normal (ev_Q tabT [] 1400 ?_))
        have zb := @getD_geL (lim a) x.k
        exact exL_normal (x.next (lim_Dg b) (lim_Dg a) (by omega)) ⟨(by first | exact trivial | (repeat (first | exact trivial | exact Sub.refl _ | refine ⟨?_, ?_⟩ | exact Sub.int (by first | rfl | omega | (push_cast; omega)) | exact Sub.nilSl | exact Sub.own rfl | exact Sub.slrSl rfl | exact Sub.ownSl (List.map_append).symm | exact Sub.ownSl rfl | exact Sub.int (by show (x.k : Int) + 1 = ((x.k + 1 : Nat) : Int); omega) | exact Sub.int (hi32 (plL_s x (by (try simp only [Int.toNat_natCast]); simp only [IntKind.wrap, IntKind.signed, IntKind.bits, Bool.false_and, Bool.false_eq_true, if_false]; omega))) | exact Sub.own (uD_snoc (lo32 (plL_s x (by (try simp only [Int.toNat_natCast]); simp only [IntKind.wrap, IntKind.signed, IntKind.bits, Bool.false_and, Bool.false_eq_true, if_false]; omega))))))), (by repeat (first | exact trivial | exact SubO.same rfl | exact ⟨rfl, rfl, by show _ = (List.map uD (x.o ++ _)).length; simp⟩ | refine ⟨?_, ?_⟩)), rfl, rfl⟩ (by show (lim b).length - (x.k + 1) < (lim b).length - x.k; omega)
      ·
        refine ev_skip (exS_normal (ev_R tabT [] 1200 ?_))
        refine ev_Q tabT [] 1300 ?_
        refine exBl_normal (exS_normal (ev_Q tabT [] 1400 ?_))
        have zb := @getD_geL (lim a) x.k
        exact exL_normal (x.next (lim_Dg b) (lim_Dg a) (by omega)) ⟨(by first | exact trivial | (repeat (first | exact trivial | exact Sub.refl _ | refine ⟨?_, ?_⟩ | exact Sub.int (by first | rfl | omega | (push_cast; omega)) | exact Sub.nilSl | exact Sub.own rfl | exact Sub.slrSl rfl | exact Sub.ownSl (List.map_append).symm | exact Sub.ownSl rfl | exact Sub.int (by show (x.k : Int) + 1 = ((x.k + 1 : Nat) : Int); omega) | exact Sub.int (hi32 (plL_s x (by (try simp only [Int.toNat_natCast]); simp only [IntKind.wrap, IntKind.signed, IntKind.bits, Bool.false_and, Bool.false_eq_true, if_false]; omega))) | exact Sub.own (uD_snoc (lo32 (plL_s x (by (try simp only [Int.toNat_natCast]); simp only [IntKind.wrap, IntKind.signed, IntKind.bits, Bool.false_and, Bool.false_eq_true, if_false]; omega))))))), (by repeat (first | exact trivial | exact SubO.same rfl | exact ⟨rfl, rfl, by show _ = (List.map uD (x.o ++ _)).length; simp⟩ | refine ⟨?_, ?_⟩)), rfl, rfl⟩ (by show (lim b).length - (x.k + 1) < (lim b).length - x.k; omega)
    ·
      refine ev_exit (exS_exit (exL_exit (exBl_same (exS_normal ?_))))
      refine ev_seq (ev_region tabT [] 1500 rfl ?_)
      refine sat_go ?_
      refine sat_fn _ ((natTrim_ok (x.o ++ [x.c]) (x.lg.snoc (by omega)) (by simp; omega)).args ⟨SubP.ownSl (uD_snoc (by simp only [IntKind.wrap, IntKind.signed, IntKind.bits, Bool.false_and, Bool.false_eq_true, if_false]; omega)), trivial⟩) rfl ?_
      refine sat_go ?_
      refine sat_done (exS_normal (ev_ret ?_))
      have e := (x.fin (by omega) (by omega)).1
      rw [L_dig, L_dig] at e
      exact FinV.ret rfl (SubP.of_eq (by rw [e]; (try rw [Nat.add_comm])))
  ·
    refine ev_skip (exS_normal (ev_R tabT [1019] 400 ?_))
    refine ev_freeze 203 rfl (by repeat (first | exact trivial | exact rfl | refine ⟨?_, ?_⟩)) (by repeat (first | exact trivial | refine ⟨?_, ?_⟩)) ?_
    refine ev_R tabT [] 500 ?_
    refine ev_seq (ev_R tabT [] 600 ?_)
    refine ev_block ?_
    refine ev_loopK (ι := PlL (lim a) (lim b)) [1, 20, 21] [] 650 (fun x => [(22, .v (.int .i64 (x.k : Nat))), (6, .v (.int .u64 (x.c : Nat))), (5, .own 203 1 (x.o.map uD))]) (fun x => [(203, .row 48 1 (x.o.map uD).length)]) (fun x => (lim a).length - x.k) (PlL.start _ _) ?_
    refine ⟨⟨le_t, le_o, rfl, rfl⟩, fun x => ?_⟩
    have hk := x.le
    have hk2 := x.lo
    have hk3 := x.hc
    have hk4 := lg_at (lim_Dg a) x.k
    have hk5 := lg_at (lim_Dg b) x.k
    refine ev_R tabT [] 700 ?_
    refine ev_seq (ev_if (fun c6 => ?_) (fun c6 => ?_))
    ·
      refine ev_skip (exS_normal (ev_seq (ev_block (ev_R tabT [] 800 ?_))))
      refine ev_R tabT [] 900 ?_
      refine ev_seq (ev_R tabT [] 1000 ?_)
      refine ev_if (fun c9 => ?_) (fun c9 => ?_)
      ·
        refine ev_Q tabT [] 1100 ?_
        refine exS_normal (ev_R tabT [] 1200 ?_)
        refine ev_Q tabT [] 1300 ?_
        refine exBl_normal (exS_normal (ev_Q tabT [] 1400 ?_))
        have zb := @getD_geL (lim b) x.k
        exact exL_normal (x.next (lim_Dg a) (lim_Dg b) (by omega)) ⟨(by first | exact trivial | (repeat (first | exact trivial | exact Sub.refl _ | refine ⟨?_, ?_⟩ | exact Sub.int (by first | rfl | omega | (push_cast; omega)) | exact Sub.nilSl | exact Sub.own rfl | exact Sub.slrSl rfl | exact Sub.ownSl (List.map_append).symm | exact Sub.ownSl rfl | exact Sub.int (by show (x.k : Int) + 1 = ((x.k + 1 : Nat) : Int); omega) | exact Sub.int (hi32 (plL_s x (by (try simp only [Int.toNat_natCast]); simp only [IntKind.wrap, IntKind.signed, IntKind.bits, Bool.false_and, Bool.false_eq_true, if_false]; omega))) | exact Sub.own (uD_snoc (lo32 (plL_s x (by (try simp only [Int.toNat_natCast]); simp only [IntKind.wrap, IntKind.signed, IntKind.bits, Bool.false_and, Bool.false_eq_true, if_false]; omega))))))), (by repeat (first | exact trivial | exact SubO.same rfl | exact ⟨rfl, rfl, by show _ = (List.map uD (x.o ++ _)).length; simp⟩ | refine ⟨?_, ?_⟩)), rfl, rfl⟩ (by show (lim a).length - (x.k + 1) < (lim a).length - x.k; omega)
      ·
        refine ev_skip (exS_normal (ev_R tabT [] 1200 ?_))
        refine ev_Q tabT [] 1300 ?_
        refine exBl_normal (exS_normal (ev_Q tabT [] 1400 ?_))
        have zb := @getD_geL (lim b) x.k
        exact exL_normal (x.next (lim_Dg a) (lim_Dg b) (by omega)) ⟨(by first | exact trivial | (repeat (first | exact trivial | exact Sub.refl _ | refine ⟨?_, ?_⟩ | exact Sub.int (by first | rfl | omega | (push_cast; omega)) | exact Sub.nilSl | exact Sub.own rfl | exact Sub.slrSl rfl | exact Sub.ownSl (List.map_append).symm | exact Sub.ownSl rfl | exact Sub.int (by show (x.k : Int) + 1 = ((x.k + 1 : Nat) : Int); omega) | exact Sub.int (hi32 (plL_s x (by (try simp only [Int.toNat_natCast]); simp only [IntKind.wrap, IntKind.signed, IntKind.bits, Bool.false_and, Bool.false_eq_true, if_false]; omega))) | exact Sub.own (uD_snoc (lo32 (plL_s x (by (try simp only [Int.toNat_natCast]); simp only [IntKind.wrap, IntKind.signed, IntKind.bits, Bool.false_and, Bool.false_eq_true, if_false]; omega))))))), (by repeat (first | exact trivial | exact SubO.same rfl | exact ⟨rfl, rfl, by show _ = (List.map uD (x.o ++ _)).length; simp⟩ | refine ⟨?_, ?_⟩)), rfl, rfl⟩ (by show (lim a).length - (x.k + 1) < (lim a).length - x.k; omega)
    ·
      refine ev_exit (exS_exit (exL_exit (exBl_same (exS_normal ?_))))
      refine ev_seq (ev_region tabT [] 1500 rfl ?_)
      refine sat_go ?_
      refine sat_fn _ ((natTrim_ok (x.o ++ [x.c]) (x.lg.snoc (by omega)) (by simp; omega)).args ⟨SubP.ownSl (uD_snoc (by simp only [IntKind.wrap, IntKind.signed, IntKind.bits, Bool.false_and, Bool.false_eq_true, if_false]; omega)), trivial⟩) rfl ?_
      refine sat_go ?_
      refine sat_done (exS_normal (ev_ret ?_))
      have e := (x.fin (by omega) (by omega)).1
      rw [L_dig, L_dig] at e
      exact FinV.ret rfl (SubP.of_eq (by rw [e]; (try rw [Nat.add_comm])))
theorem zrows (n : Nat) : (MR.map (List.replicate n ()) (fun _ => litS [.int .u32 0]) ()).rows = (MR.map (List.replicate n 0) uD 0).rows := by
  simp only [MR.rows, List.map_replicate]
  rfl
theorem set_rows (o : List Nat) (j v : Nat) : (MR.upd (.map o uD 0) j (uD v)).rows = (MR.map (o.set j v) uD 0).rows := by
  simp only [MR.rows, List.map_set]
theorem w64 {n : Nat} (h : n < 18446744073709551616) : IntKind.u64.wrap (n : Int) = (n : Int) := by
  simp only [IntKind.wrap, IntKind.signed, IntKind.bits, Bool.false_and, Bool.false_eq_true, if_false]
  omega
theorem w32n {n : Nat} (h : n < 4294967296) : IntKind.u32.wrap (n : Int) = (n : Int) := by
  simp only [IntKind.wrap, IntKind.signed, IntKind.bits, Bool.false_and, Bool.false_eq_true, if_false]
  omega
theorem muI_s {a b : List Nat} {i : Nat} (y : MuI a b i) (ha : Lg a) (hb : Lg b) : IntKind.u64.wrap ((y.c : Int) + IntKind.u64.wrap (IntKind.u64.wrap (IntKind.u64.wrap ((a.getD i 0 : Nat) : Int) * IntKind.u64.wrap ((b.getD y.k 0 : Nat) : Int)) + IntKind.u64.wrap ((y.o.getD (i + y.k) 0 : Nat) : Int))) = ((y.s : Nat) : Int) := by
  have h0 := y.s_lt ha hb
  have h1 := lg_at ha i
  have h2 := lg_at hb y.k
  have h3 := lg_at y.lg (i + y.k)
  have h4 := mul_lt32 h1 h2
  have h5 := y.hc
  unfold MuI.s at *
  rw [w64 (n := a.getD i 0) (by omega), w64 (n := b.getD y.k 0) (by omega), w64 (n := y.o.getD (i + y.k) 0) (by omega), ← Int.natCast_mul, w64 (n := a.getD i 0 * b.getD y.k 0) (by omega), ← Int.natCast_add, w64 (n := a.getD i 0 * b.getD y.k 0 + y.o.getD (i + y.k) 0) (by omega), ← Int.natCast_add, w64 (by omega)]
  congr 1
  omega
theorem natMul0_ok (a b : Nat) (ha : (lim a).length ≤ 100000) (hb : (lim b).length ≤ 100000) : Fn Tryz.prog 143 [usD (lim a), usD (lim b)] (usD (lim (a * b))) := by
  refine fn_ev tabT Tryz.func143 rfl rfl rfl rfl rfl rfl ?_
  intro w0 s0 mx
  refine ev_R tabT [] 100 ?_
  refine ev_R tabT [1016] 200 ?_
  refine ev_tell [0, 1] [] 210 [(5, .mo 105 ((lim a).length + (lim b).length))] [(105, .mrow 48 1 (.map (List.replicate ((lim a).length + (lim b).length) 0) uD 0))] ?_
  refine ⟨⟨⟨Sub.mo (by omega), le_t⟩, ⟨SubO.mr (by rw [zrows]; congr 3), le_o⟩, rfl, rfl⟩, ?_⟩
  refine ev_seq (ev_R tabT [] 300 ?_)
  refine ev_block ?_
  refine ev_loopK (ι := MuO (lim a) (lim b)) [1, 5, 17, 18] [] 350 (fun x => [(19, .v (.int .i64 (x.i : Nat)))]) (fun x => [(105, .mrow 48 1 (.map x.o uD 0))]) (fun x => (lim a).length - x.i) (MuO.start _ _) ?_
  refine ⟨⟨le_t, le_o, rfl, rfl⟩, fun x => ?_⟩
  have hk := x.le
  have hlo := x.lo
  have hm : ((lim a).length + (lim b).length) = (MR.map x.o uD 0).len := by rw [MR.len, hlo]
  refine ev_R tabT [] 400 ?_
  refine ev_seq (ev_if (fun c3 => ?_) (fun c3 => ?_))
  ·
    refine ev_skip (exS_normal (ev_seq (ev_block (ev_R tabT [] 500 ?_))))
    refine ev_R tabT [] 600 ?_
    refine ev_seq (ev_R tabT [] 700 ?_)
    refine ev_block ?_
    refine ev_loopK (ι := MuI (lim a) (lim b) x.i) [1, 5, 6, 7, 17, 18, 19, 24, 25] [] 750 (fun y => [(26, .v (.int .i64 (y.k : Nat))), (8, .v (.int .u64 (y.c : Nat)))]) (fun y => [(105, .mrow 48 1 (.map y.o uD 0))]) (fun y => (lim b).length - y.k) (MuI.start x) ?_
    refine ⟨⟨le_t, le_o, rfl, rfl⟩, fun y => ?_⟩
    have hky := y.le
    have hly := y.lo
    have hm2 : ((lim a).length + (lim b).length) = (MR.map y.o uD 0).len := by rw [MR.len, hly]
    have hj : ((x.i : Int) + (y.k : Int)).toNat = x.i + y.k := by omega
    have es := muI_s y (lim_Dg a) (lim_Dg b)
    refine ev_R tabT [] 800 ?_
    refine ev_seq (ev_if (fun c7 => ?_) (fun c7 => ?_))
    ·
      refine ev_skip (exS_normal (ev_seq (ev_block (ev_R tabT [] 900 ?_))))
      refine ev_seq (ev_region tabT [] 1000 rfl ?_)
      repeat (first | refine sat_same ?_ | refine sat_impA ?_ | refine sat_need (by first | exact ⟨hm2, by rw [← hm2]; omega⟩ | exact ⟨hm2, by omega⟩ | exact ⟨hm, by rw [← hm]; omega⟩ | exact ⟨hm, by omega⟩ | first | exact trivial | omega | exact ini (by omega) (by omega) | (intro hh; simp at hh; exact ini (by omega) (by omega)) | (intro hh; simp at hh ⊢; omega) | (simp at *; omega) | (simp_all; done)) ?_)
      refine sat_done (exS_normal ?_)
      refine ev_seq (ev_region tabT [] 1100 rfl ?_)
      repeat (first | refine sat_same ?_ | refine sat_impA ?_ | refine sat_need (by first | exact ⟨hm2, by rw [← hm2]; omega⟩ | exact ⟨hm2, by omega⟩ | exact ⟨hm, by rw [← hm]; omega⟩ | exact ⟨hm, by omega⟩ | first | exact trivial | omega | exact ini (by omega) (by omega) | (intro hh; simp at hh; exact ini (by omega) (by omega)) | (intro hh; simp at hh ⊢; omega) | (simp at *; omega) | (simp_all; done)) ?_)
      refine sat_done (exS_normal (ev_Q tabT [] 1200 ?_))
      refine exBl_normal (exS_normal (ev_Q tabT [] 1300 ?_))
      exact exL_normal (y.next (lim_Dg a) (lim_Dg b) (by omega) (by omega)) ⟨(by first | exact trivial | (repeat (first | exact trivial | exact Sub.refl _ | refine ⟨?_, ?_⟩ | exact Sub.int (by first | rfl | omega | (push_cast; omega)) | exact Sub.nilSl | exact Sub.own rfl | exact Sub.slrSl rfl | exact Sub.ownSl (List.map_append).symm | exact Sub.ownSl rfl | exact Sub.int (by show (y.k : Int) + 1 = ((y.k + 1 : Nat) : Int); omega) | exact Sub.int (by (try simp only [hj, Int.toNat_natCast]); rw [es]; exact hi32 rfl)))), ⟨SubO.mr (by (try simp only [hj, Int.toNat_natCast]); rw [es, lo32 rfl]; exact set_rows _ _ _), le_o⟩, rfl, rfl⟩ (by show (lim b).length - (y.k + 1) < (lim b).length - y.k; omega)
    ·
      refine ev_exit (exS_exit (exL_exit (exBl_same (exS_normal ?_))))
      refine ev_region tabT [] 1400 rfl ?_
      repeat (first | refine sat_same ?_ | refine sat_impA ?_ | refine sat_need (by first | exact ⟨hm2, by rw [← hm2]; omega⟩ | exact ⟨hm2, by omega⟩ | exact ⟨hm, by rw [← hm]; omega⟩ | exact ⟨hm, by omega⟩ | first | exact trivial | omega | exact ini (by omega) (by omega) | (intro hh; simp at hh; exact ini (by omega) (by omega)) | (intro hh; simp at hh ⊢; omega) | (simp at *; omega) | (simp_all; done)) ?_)
      refine sat_done (exBl_normal (exS_normal (ev_Q tabT [] 1500 ?_)))
      exact exL_normal (y.fin (by omega) (by omega)) ⟨(by first | exact trivial | (repeat (first | exact trivial | exact Sub.refl _ | refine ⟨?_, ?_⟩ | exact Sub.int (by first | rfl | omega | (push_cast; omega)) | exact Sub.nilSl | exact Sub.own rfl | exact Sub.slrSl rfl | exact Sub.ownSl (List.map_append).symm | exact Sub.ownSl rfl | exact Sub.int (by show (x.i : Int) + 1 = ((x.i + 1 : Nat) : Int); omega)))), ⟨SubO.mr (by have hj : ((x.i : Int) + ((lim b).length : Int)).toNat = x.i + (lim b).length := (by omega); (try simp only [hj]); rw [w32n y.hc]; exact set_rows _ _ _), le_o⟩, rfl, rfl⟩ (by show (lim a).length - (x.i + 1) < (lim a).length - x.i; omega)
  ·
    refine ev_exit (exS_exit (exL_exit (exBl_same (exS_normal ?_))))
    refine ev_freeze 105 rfl (by repeat (first | exact trivial | exact hm | refine ⟨?_, ?_⟩)) (by repeat (first | exact trivial | refine ⟨?_, ?_⟩)) ?_
    refine ev_seq (ev_region tabT [] 1600 rfl ?_)
    refine sat_go ?_
    refine sat_fn _ ((natTrim_ok x.o x.lg (by omega)).args ⟨SubP.ownSl rfl, trivial⟩) rfl ?_
    refine sat_go ?_
    refine sat_done (exS_normal (ev_ret ?_))
    have e := x.fin (by omega)
    rw [L_dig, L_dig] at e
    exact FinV.ret rfl (SubP.of_eq (by rw [e]))
theorem or64 {h l : Nat} (hh : h < 4294967296) (hl : l < 4294967296) : bOr .u64 (IntKind.u64.wrap (IntKind.u64.wrap (h : Int) * 2 ^ min (Int.toNat 32) IntKind.u64.bits)) (IntKind.u64.wrap (l : Int)) = ((h * 4294967296 + l : Nat) : Int) := by
  rw [show ((2 : Int) ^ min (Int.toNat 32) IntKind.u64.bits) = ((4294967296 : Nat) : Int) by decide, w64 (n := h) (by omega), w64 (n := l) (by omega), ← Int.natCast_mul, w64 (n := h * 4294967296) (by omega)]
  show IntKind.u64.wrap ((BitVec.ofInt 64 ((h * 4294967296 : Nat) : Int) ||| BitVec.ofInt 64 ((l : Nat) : Int)).toNat : Int) = _
  rw [BitVec.ofInt_natCast, BitVec.ofInt_natCast, BitVec.toNat_or, BitVec.toNat_ofNat, BitVec.toNat_ofNat, Nat.mod_eq_of_lt (by omega), Nat.mod_eq_of_lt (by omega)]
  have e := Nat.two_pow_add_eq_or_of_lt (i := 32) (b := l) (by simpa using hl) h
  rw [show (2 : Nat) ^ 32 = 4294967296 by decide, Nat.mul_comm 4294967296 h] at e
  rw [← e, w64 (by omega)]
theorem div32_ok {h l d : Int} (hh : I32 h) (hl : I32 l) (hd : I32 d) (hlt : h < d) :
    bOr .u64 (IntKind.u64.wrap (IntKind.u64.wrap h * 2 ^ min (Int.toNat 32) IntKind.u64.bits)) (IntKind.u64.wrap l) = ((h.toNat * 4294967296 + l.toNat : Nat) : Int) ∧ IntKind.u64.wrap d = ((d.toNat : Nat) : Int) ∧ (h.toNat * 4294967296 + l.toNat) / d.toNat < 4294967296 ∧ (h.toNat * 4294967296 + l.toNat) % d.toNat < 4294967296 := by
  obtain ⟨h, rfl⟩ := Int.eq_ofNat_of_zero_le hh.1
  obtain ⟨l, rfl⟩ := Int.eq_ofNat_of_zero_le hl.1
  obtain ⟨d, rfl⟩ := Int.eq_ofNat_of_zero_le hd.1
  have h1 := hh.2
  have h2 := hl.2
  have h3 := hd.2
  simp only [Int.toNat_natCast]
  refine ⟨or64 (by omega) (by omega), w64 (by omega), ?_, ?_⟩
  · rw [Nat.div_lt_iff_lt_mul (by omega)]
    omega
  · exact Nat.lt_of_lt_of_le (Nat.mod_lt _ (by omega)) (by omega)
theorem Div32_ok (h l d : Int) (hh : I32 h) (hl : I32 l) (hd : I32 d) (hlt : h < d) : Fn Tryz.prog 180 [.v (.int .u32 h), .v (.int .u32 l), .v (.int .u32 d)] (.tup [.v (.int .u32 ((h.toNat * 4294967296 + l.toNat) / d.toNat : Nat)), .v (.int .u32 ((h.toNat * 4294967296 + l.toNat) % d.toNat : Nat))]) := by
  obtain ⟨e1, e2, e3, e4⟩ := div32_ok hh hl hd hlt
  have hd0 : 0 < d := by have := hh.1; omega
  refine fn_ev tabT Tryz.func180 rfl rfl rfl rfl rfl rfl ?_
  intro w0 s0 mx
  refine ev_seq (ev_region tabT [] 100 rfl ?_)
  repeat (first | refine sat_same ?_ | refine sat_impA ?_ | refine sat_need (by first | (rw [e2]; omega) | first | exact trivial | omega | exact ini (by omega) (by omega) | (intro hh; simp at hh; exact ini (by omega) (by omega)) | (intro hh; simp at hh ⊢; omega) | (simp at *; omega) | (simp_all; done)) ?_)
  refine sat_done (exS_normal (ev_seq ?_))
  refine ev_seq (ev_region tabT [] 200 rfl ?_)
  repeat (first | refine sat_same ?_ | refine sat_impA ?_ | refine sat_need (by first | (rw [e2]; omega) | first | exact trivial | omega | exact ini (by omega) (by omega) | (intro hh; simp at hh; exact ini (by omega) (by omega)) | (intro hh; simp at hh ⊢; omega) | (simp at *; omega) | (simp_all; done)) ?_)
  refine sat_done (exS_normal (ev_if (fun c1 => ?_) (fun c1 => ?_)))
  ·
    exact absurd c1 (by simp; omega)
  ·
    refine ev_skip (exS_normal ?_)
    refine ev_seq (ev_region tabT [] 400 rfl ?_)
    repeat (first | refine sat_same ?_ | refine sat_impA ?_ | refine sat_need (by first | (rw [e2]; omega) | first | exact trivial | omega | exact ini (by omega) (by omega) | (intro hh; simp at hh; exact ini (by omega) (by omega)) | (intro hh; simp at hh ⊢; omega) | (simp at *; omega) | (simp_all; done)) ?_)
    refine sat_done (exS_normal ?_)
    refine ev_seq (ev_drawn tabT [] [[], [], [1], [0, 1, 2], [0, 1, 2, 3], [], [], [6], [5, 6, 7], [5, 6, 7, 8], [0, 1, 2, 3, 4], [0, 1, 2, 3, 4, 5, 6, 7, 8, 9, 10]] 500 mixT (by kernel_rfl) rfl ?_)
    repeat (first | refine sat_same ?_ | refine sat_impA ?_ | refine sat_need (by first | (rw [e2]; omega) | first | exact trivial | omega | exact ini (by omega) (by omega) | (intro hh; simp at hh; exact ini (by omega) (by omega)) | (intro hh; simp at hh ⊢; omega) | (simp at *; omega) | (simp_all; done)) ?_)
    refine sat_done (exS_normal (ev_ret ?_))
    exact FinV.ret rfl (SubP.tup ⟨SubP.int (by rw [e1, e2, ← Int.ofNat_tdiv, w64 (Nat.lt_trans e3 (by decide)), w32n e3]), SubP.int (by rw [e1, e2, ← Int.ofNat_tmod, w32n e4]), trivial⟩)
end Go.Proofs.YtnkjenaanjnihaaGreatDoor


/- Walks by the evaluator: naturals of the program: short, Add, Sub, Mul. -/
namespace Go.Proofs.YtnkjenaanjnihaaGreatDoor
open Go.RowKit
variable {md me : Bool}
theorem natAdd_ok (a b : Nat) (ha : (lim a).length ≤ 600) (hb : (lim b).length ≤ 600) (hab : (lim (a + b)).length ≤ 600) : Fn Tryz.prog 118 [usD (lim a), usD (lim b)] (.tup [usD (lim (a + b)), faD 0 0]) := by
  refine fn_ev tabT Tryz.func118 rfl rfl rfl rfl rfl rfl ?_
  intro w0 s0 mx
  refine ev_R tabT [] 100 ?_
  refine ev_seq ?_
  refine ev_seq (ev_region tabT [] 200 rfl ?_)
  refine sat_go ?_
  refine sat_fn _ (natCheck_ok _ _ (by first | assumption | omega | (simp_all; done)) (by first | assumption | omega | (simp_all; done))) rfl ?_
  refine sat_go ?_
  refine sat_done (exS_normal (ev_R tabT [] 300 ?_))
  refine ev_if (fun c2 => ?_) (fun c2 => ?_)
  ·
    exact absurd c2 (by decide)
  ·
    refine ev_skip (exS_normal ?_)
    refine ev_seq (ev_region tabT [] 500 rfl ?_)
    refine sat_go ?_
    refine sat_fn _ (natAdd0_ok a b (by omega) (by omega)) rfl ?_
    refine sat_go ?_
    refine sat_fn _ (natFit_ok (lim (a + b)) (lim_Dg _) (by omega) (by rw [L_dig]; exact hab)) rfl ?_
    refine sat_go ?_
    refine sat_done (exS_normal (ev_ret ?_))
    exact FinV.ret rfl (SubP.tup ⟨SubP.of_eq (by rw [L_dig]), SubP.refl _, trivial⟩)
theorem natMul_ok (a b : Nat) (ha : (lim a).length ≤ 600) (hb : (lim b).length ≤ 600) (hab : (lim (a * b)).length ≤ 600) : Fn Tryz.prog 116 [usD (lim a), usD (lim b)] (.tup [usD (lim (a * b)), faD 0 0]) := by
  refine fn_ev tabT Tryz.func116 rfl rfl rfl rfl rfl rfl ?_
  intro w0 s0 mx
  refine ev_R tabT [] 100 ?_
  refine ev_seq ?_
  refine ev_seq (ev_region tabT [] 200 rfl ?_)
  refine sat_go ?_
  refine sat_fn _ (natCheck_ok _ _ (by first | assumption | omega | (simp_all; done)) (by first | assumption | omega | (simp_all; done))) rfl ?_
  refine sat_go ?_
  refine sat_done (exS_normal (ev_R tabT [] 300 ?_))
  refine ev_if (fun c2 => ?_) (fun c2 => ?_)
  ·
    exact absurd c2 (by decide)
  ·
    refine ev_skip (exS_normal ?_)
    refine ev_seq (ev_region tabT [] 500 rfl ?_)
    refine sat_go ?_
    refine sat_fn _ (natMul0_ok a b (by omega) (by omega)) rfl ?_
    refine sat_go ?_
    refine sat_fn _ (natFit_ok (lim (a * b)) (lim_Dg _) (by omega) (by rw [L_dig]; exact hab)) rfl ?_
    refine sat_go ?_
    refine sat_done (exS_normal (ev_ret ?_))
    exact FinV.ret rfl (SubP.tup ⟨SubP.of_eq (by rw [L_dig]), SubP.refl _, trivial⟩)
theorem natSub_ok (a b : Nat) (ha : (lim a).length ≤ 600) (hb : (lim b).length ≤ 600) (hle : b ≤ a) : Fn Tryz.prog 119 [usD (lim a), usD (lim b)] (.tup [usD (lim (a - b)), faD 0 0]) := by
  have hneg := cmpL_neg a b
  refine fn_ev tabT Tryz.func119 rfl rfl rfl rfl rfl rfl ?_
  intro w0 s0 mx
  refine ev_R tabT [] 100 ?_
  refine ev_seq ?_
  refine ev_seq (ev_region tabT [] 200 rfl ?_)
  refine sat_go ?_
  refine sat_fn _ (natCheck_ok _ _ (by first | assumption | omega | (simp_all; done)) (by first | assumption | omega | (simp_all; done))) rfl ?_
  refine sat_go ?_
  refine sat_done (exS_normal (ev_R tabT [] 300 ?_))
  refine ev_if (fun c2 => ?_) (fun c2 => ?_)
  ·
    exact absurd c2 (by decide)
  ·
    refine ev_skip (exS_normal (ev_seq ?_))
    refine ev_seq (ev_region tabT [] 500 rfl ?_)
    refine sat_go ?_
    refine sat_fn _ (natCompare_ok a b (by omega) (by omega)) rfl ?_
    refine sat_go ?_
    refine sat_done (exS_normal (ev_if (fun c4 => ?_) (fun c4 => ?_)))
    ·
      exact absurd c4 (by simp; omega)
    ·
      refine ev_skip (exS_normal ?_)
      refine ev_seq (ev_region tabT [] 700 rfl ?_)
      refine sat_go ?_
      refine sat_fn _ (natSub0_ok _ _ (by first | assumption | omega | (simp_all; done)) (by first | assumption | omega | (simp_all; done)) (by first | assumption | omega | (simp_all; done))) rfl ?_
      refine sat_go ?_
      refine sat_done (exS_normal (ev_ret ?_))
      exact FinV.ret rfl (SubP.refl _)
theorem natShort_ok (a d : Nat) (ha : (lim a).length ≤ 100000) (h0 : 0 < d) (hd : d < 4294967296) : Fn Tryz.prog 167 [usD (lim a), .v (.int .u32 d)] (.tup [usD (lim (a / d)), .v (.int .u32 (a % d : Nat))]) := by
  refine fn_ev tabT Tryz.func167 rfl rfl rfl rfl rfl rfl ?_
  intro w0 s0 mx
  refine ev_R tabT [] 100 ?_
  refine ev_R tabT [1011] 200 ?_
  refine ev_tell [0, 1] [] 210 [(6, .mo 102 (lim a).length)] [(102, .mrow 48 1 (.map (List.replicate (lim a).length 0) uD 0))] ?_
  refine ⟨⟨⟨Sub.mo (by omega), le_t⟩, ⟨SubO.mr (by rw [zrows]; congr 3), le_o⟩, rfl, rfl⟩, ?_⟩
  refine ev_R tabT [] 300 ?_
  refine ev_seq (ev_R tabT [] 400 ?_)
  refine ev_block ?_
  refine ev_loopK (ι := Sho (lim a) d) [0, 1, 6] [] 450 (fun x => [(8, .v (.int .i64 ((x.k : Int) - 1))), (7, .v (.int .u32 (x.r : Nat)))]) (fun x => [(102, .mrow 48 1 (.map x.o uD 0))]) (fun x => x.k) (Sho.start _ h0) ?_
  refine ⟨⟨le_t, le_o, rfl, rfl⟩, fun x => ?_⟩
  have hk := x.le
  have hlo := x.lo
  have hr := x.hr
  have hm : (lim a).length = (MR.map x.o uD 0).len := by rw [MR.len, hlo]
  have hkt : ((x.k : Int) - 1).toNat = x.k - 1 := by omega
  refine ev_seq (ev_R tabT [] 500 ?_)
  refine ev_if (fun c4 => ?_) (fun c4 => ?_)
  ·
    refine ev_skip (exS_normal (ev_seq (ev_block ?_)))
    refine ev_region tabT [] 700 rfl ?_
    repeat (first | refine sat_same ?_ | refine sat_impA ?_ | refine sat_need (by first | exact ⟨hm, by rw [← hm]; omega⟩ | exact ⟨hm, by omega⟩ | first | exact trivial | omega | exact ini (by omega) (by omega) | (intro hh; simp at hh; exact ini (by omega) (by omega)) | (intro hh; simp at hh ⊢; omega) | (simp at *; omega) | (simp_all; done)) ?_)
    refine sat_fn _ (Div32_ok _ _ _ ⟨by omega, by omega⟩ (i32_at (lim_Dg a) _) ⟨by omega, by omega⟩ (by omega)) rfl ?_
    repeat (first | refine sat_same ?_ | refine sat_impA ?_ | refine sat_need (by first | exact ⟨hm, by rw [← hm]; omega⟩ | exact ⟨hm, by omega⟩ | first | exact trivial | omega | exact ini (by omega) (by omega) | (intro hh; simp at hh; exact ini (by omega) (by omega)) | (intro hh; simp at hh ⊢; omega) | (simp at *; omega) | (simp_all; done)) ?_)
    refine sat_done (exBl_normal (exS_normal (ev_Q tabT [] 800 ?_)))
    have es : x.s = x.r * 4294967296 + (lim a).getD (x.k - 1) 0 := rfl
    exact exL_normal (x.next (lim_Dg a) hd (by omega)) ⟨⟨Sub.int (by show (x.k : Int) - 1 - 1 = ((x.k - 1 : Nat) : Int) - 1; omega), Sub.int (by simp only [hkt, Int.toNat_natCast]; show _ = ((x.s % d : Nat) : Int); rw [es]), le_t⟩, ⟨SubO.mr (by simp only [hkt, Int.toNat_natCast]; show _ = (MR.map (x.o.set (x.k - 1) (x.s / d)) uD 0).rows; rw [es]; exact set_rows _ _ _), le_o⟩, rfl, rfl⟩ (by show x.k - 1 < x.k; omega)
  ·
    refine ev_exit (exS_exit (exL_exit (exBl_same (exS_normal ?_))))
    refine ev_freeze 102 rfl (by repeat (first | exact trivial | exact hm | refine ⟨?_, ?_⟩)) (by repeat (first | exact trivial | refine ⟨?_, ?_⟩)) ?_
    refine ev_seq (ev_region tabT [] 800 rfl ?_)
    refine sat_go ?_
    refine sat_fn _ ((natTrim_ok x.o x.lg (by omega)).args ⟨SubP.ownSl rfl, trivial⟩) rfl ?_
    refine sat_go ?_
    refine sat_done (exS_normal (ev_ret ?_))
    have e := x.fin (by omega)
    rw [L_dig] at e
    exact FinV.ret rfl (SubP.tup ⟨SubP.of_eq (by rw [e.1]), SubP.int (by rw [e.2]), trivial⟩)
end Go.Proofs.YtnkjenaanjnihaaGreatDoor


/- Shifts of limbs, and math/bits.Add32. Plain. -/
namespace Go.Proofs.YtnkjenaanjnihaaGreatDoor
theorem two_split (n : Nat) : 2 ^ n = 4294967296 ^ (n / 32) * 2 ^ (n % 32) := by
  conv => lhs; rw [← Nat.div_add_mod n 32]
  rw [Nat.pow_add, Nat.pow_mul]
theorem P_dvd (n : Nat) : 4294967296 = 2 ^ (n % 32) * 2 ^ (32 - n % 32) := by
  have h := Nat.mod_lt n (show 0 < 32 by decide)
  rw [← Nat.pow_add, show n % 32 + (32 - n % 32) = 32 by omega]
theorem P_pos (n : Nat) : 0 < 2 ^ (n % 32) := Nat.pow_pos (by decide)
theorem P_le (n : Nat) : 2 ^ (n % 32) ≤ 2147483648 := by
  have h := Nat.mod_lt n (show 0 < 32 by decide)
  have h1 : 2 ^ (n % 32) ≤ 2 ^ 31 := Nat.pow_le_pow_right (by decide) (by omega)
  simpa using h1
structure Lf (l : List Nat) (n : Nat) where
  k : Nat
  c : Nat
  o : List Nat
  eq : VL o + c * 4294967296 ^ (n / 32 + k) = VL (l.take k) * 2 ^ n
  lo : o.length = n / 32 + k
  lg : Lg o
  hc : c < 2 ^ (n % 32)
  le : k ≤ l.length
def Lf.start (l : List Nat) (n : Nat) : Lf l n := ⟨0, 0, List.replicate (n / 32) 0, by simp [L_zeros, VL], by simp, Lg_zeros _, P_pos n, Nat.zero_le _⟩
def Lf.w {l : List Nat} {n : Nat} (x : Lf l n) : Nat := l.getD x.k 0 * 2 ^ (n % 32)
theorem lf_low (x n : Nat) : x * 2 ^ (n % 32) % 4294967296 = 2 ^ (n % 32) * (x % 2 ^ (32 - n % 32)) := by
  conv => lhs; rw [P_dvd n, Nat.mul_comm x]
  rw [Nat.mul_mod_mul_left]
theorem lf_or {x n c : Nat} (hc : c < 2 ^ (n % 32)) : x * 2 ^ (n % 32) % 4294967296 ||| c = x * 2 ^ (n % 32) % 4294967296 + c := by
  rw [lf_low, Nat.two_pow_add_eq_or_of_lt hc]
theorem lf_lt {x n c : Nat} (hc : c < 2 ^ (n % 32)) : x * 2 ^ (n % 32) % 4294967296 + c < 4294967296 := by
  have h0 := P_dvd n
  have h1 : x % 2 ^ (32 - n % 32) < 2 ^ (32 - n % 32) := Nat.mod_lt _ (Nat.pow_pos (by decide))
  have h2 : 2 ^ (n % 32) * (x % 2 ^ (32 - n % 32) + 1) ≤ 2 ^ (n % 32) * 2 ^ (32 - n % 32) := Nat.mul_le_mul_left _ h1
  rw [Nat.mul_add] at h2
  rw [lf_low]
  omega
theorem lf_w_lt {x : Nat} (n : Nat) (h : x < 4294967296) : x * 2 ^ (n % 32) < 18446744073709551616 := by
  have h1 : x * 2 ^ (n % 32) ≤ 4294967295 * 2147483648 := Nat.mul_le_mul (by omega) (P_le n)
  omega
theorem lf_hi {x : Nat} (n : Nat) (h : x < 4294967296) : x * 2 ^ (n % 32) / 4294967296 < 2 ^ (n % 32) := by
  rw [Nat.div_lt_iff_lt_mul (by decide), Nat.mul_comm]
  exact Nat.mul_lt_mul_of_pos_left h (P_pos n)
theorem lf_step {l o : List Nat} {n k c : Nat} (h : VL o + c * 4294967296 ^ (n / 32 + k) = VL (l.take k) * 2 ^ n) (ho : o.length = n / 32 + k) :
    VL (o ++ [l.getD k 0 * 2 ^ (n % 32) % 4294967296 + c]) + l.getD k 0 * 2 ^ (n % 32) / 4294967296 * 4294967296 ^ (n / 32 + (k + 1)) = VL (l.take (k + 1)) * 2 ^ n := by
  have e0 : 4294967296 ^ k * l.getD k 0 * 2 ^ n = 4294967296 ^ (n / 32 + k) * (l.getD k 0 * 2 ^ (n % 32)) := by
    rw [two_split n, Nat.pow_add, Nat.mul_mul_mul_comm, Nat.mul_comm (4294967296 ^ k)]
  rw [L_snoc, ho, VL_take_one l, Nat.add_mul, e0, ← Nat.add_assoc (n / 32) k 1, Nat.pow_succ]
  generalize 4294967296 ^ (n / 32 + k) = B at *
  generalize l.getD k 0 * 2 ^ (n % 32) = w at *
  generalize VL (l.take k) * 2 ^ n = R at *
  have e := Nat.div_add_mod w 4294967296
  have e2 : B * w = B * (4294967296 * (w / 4294967296)) + B * (w % 4294967296) := by rw [← Nat.mul_add, e]
  have e3 : B * (w % 4294967296 + c) = B * (w % 4294967296) + B * c := Nat.mul_add _ _ _
  have e4 : w / 4294967296 * (B * 4294967296) = B * (4294967296 * (w / 4294967296)) := by rw [Nat.mul_comm, Nat.mul_assoc]
  have e5 : c * B = B * c := Nat.mul_comm _ _
  omega
def Lf.next {l : List Nat} {n : Nat} (x : Lf l n) (hg : Lg l) (h : x.k < l.length) : Lf l n := ⟨x.k + 1, x.w / 4294967296, x.o ++ [x.w % 4294967296 + x.c], lf_step x.eq x.lo, by simp [x.lo]; omega, x.lg.snoc (lf_lt x.hc), lf_hi n (lg_at hg _), h⟩
theorem Lf.fin {l : List Nat} {n : Nat} (x : Lf l n) (h : l.length ≤ x.k) : VL (x.o ++ [x.c]) = VL l * 2 ^ n ∧ Lg (x.o ++ [x.c]) ∧ (x.o ++ [x.c]).length = n / 32 + l.length + 1 := by
  have hk := x.le
  have h1 := x.eq
  have h2 := P_le n
  have h3 := x.hc
  rw [List.take_of_length_le h] at h1
  refine ⟨by rw [L_snoc, x.lo, Nat.mul_comm]; exact h1, x.lg.snoc (by omega), by rw [List.length_append, x.lo, List.length_singleton]; omega⟩
theorem VL_div {l : List Nat} (hg : Lg l) (i : Nat) : VL l / 4294967296 ^ i = VL (l.drop i) := by
  rcases Nat.lt_or_ge i l.length with h | h
  · have h1 := L_take_drop l i (Nat.le_of_lt h)
    have h2 := L_lt (hg.take i)
    rw [List.length_take, Nat.min_eq_left (Nat.le_of_lt h)] at h2
    rw [h1, Nat.add_mul_div_left _ _ (Nat.pow_pos (by decide)), Nat.div_eq_of_lt h2, Nat.zero_add]
  · rw [List.drop_of_length_le h, L_nil]
    exact Nat.div_eq_of_lt (Nat.lt_of_lt_of_le (L_lt hg) (Nat.pow_le_pow_right (by decide) h))
theorem VL_drop_one (l : List Nat) (i : Nat) : VL (l.drop i) = l.getD i 0 + 4294967296 * VL (l.drop (i + 1)) := by
  rcases Nat.lt_or_ge i l.length with h | h
  · rw [List.drop_eq_getElem_cons h, L_cons, L_getD_lt h]
  · rw [List.drop_of_length_le h, List.drop_of_length_le (by omega), getD_geL h]; rfl
structure Rg (l : List Nat) (n : Nat) where
  k : Nat
  o : List Nat
  eq : VL o = VL l / 2 ^ n % 4294967296 ^ k
  lo : o.length = k
  lg : Lg o
  le : k ≤ l.length
def Rg.start (l : List Nat) (n : Nat) : Rg l n := ⟨0, [], by rw [Nat.pow_zero, Nat.mod_one]; rfl, rfl, Lg.nil, Nat.zero_le _⟩
def Rg.w {l : List Nat} {n : Nat} (x : Rg l n) : Nat := l.getD (n / 32 + x.k) 0 + 4294967296 * l.getD (n / 32 + x.k + 1) 0
theorem rg_limb {l : List Nat} {n k : Nat} (hg : Lg l) : VL l / 2 ^ n / 4294967296 ^ k % 4294967296 = (l.getD (n / 32 + k) 0 + 4294967296 * l.getD (n / 32 + k + 1) 0) / 2 ^ (n % 32) % 4294967296 := by
  rw [Nat.div_div_eq_div_mul, two_split n, Nat.mul_right_comm, ← Nat.pow_add, ← Nat.div_div_eq_div_mul, VL_div hg, VL_drop_one, VL_drop_one l (n / 32 + k + 1), Nat.mul_add, ← Nat.add_assoc]
  generalize l.getD (n / 32 + k) 0 + 4294967296 * l.getD (n / 32 + k + 1) 0 = W
  generalize VL (l.drop (n / 32 + k + 1 + 1)) = R
  have e : 4294967296 * (4294967296 * R) = 2 ^ (n % 32) * (4294967296 * (2 ^ (32 - n % 32) * R)) := by
    have h := P_dvd n
    generalize 2 ^ (n % 32) = P at *
    generalize 2 ^ (32 - n % 32) = T at *
    calc 4294967296 * (4294967296 * R) = (P * T) * (4294967296 * R) := by rw [← h]
      _ = P * (4294967296 * (T * R)) := by rw [Nat.mul_assoc, Nat.mul_left_comm T]
  rw [e, Nat.add_mul_div_left _ _ (P_pos n), Nat.add_mul_mod_self_left]
def Rg.next {l : List Nat} {n : Nat} (x : Rg l n) (hg : Lg l) (h : n / 32 + x.k < l.length) : Rg l n := ⟨x.k + 1, x.o ++ [x.w / 2 ^ (n % 32) % 4294967296], by
  rw [L_snoc, x.lo, x.eq]
  unfold Rg.w
  rw [← rg_limb hg, Nat.pow_succ, Nat.mod_mul], by simp [x.lo], x.lg.snoc (Nat.mod_lt _ (by decide)), by omega⟩
theorem Rg.fin {l : List Nat} {n : Nat} (x : Rg l n) (hg : Lg l) (h : l.length ≤ n / 32 + x.k) : VL x.o = VL l / 2 ^ n := by
  rw [x.eq]
  refine Nat.mod_eq_of_lt ?_
  have h1 : VL l < 4294967296 ^ (n / 32 + x.k) := Nat.lt_of_lt_of_le (L_lt hg) (Nat.pow_le_pow_right (by decide) h)
  rw [Nat.div_lt_iff_lt_mul (Nat.pow_pos (by decide))]
  refine Nat.lt_of_lt_of_le h1 ?_
  rw [Nat.pow_add, Nat.mul_comm, two_split n]
  exact Nat.mul_le_mul_left _ (Nat.le_mul_of_pos_right _ (P_pos n))
end Go.Proofs.YtnkjenaanjnihaaGreatDoor


/- Walks by the evaluator: naturals of the program: left, right. -/
namespace Go.Proofs.YtnkjenaanjnihaaGreatDoor
open Go.RowKit
variable {md me : Bool}
theorem sh_le (n : Nat) : min (Int.tmod (n : Int) 32).toNat IntKind.u64.bits = n % 32 := by
  rw [Int.tmod_eq_emod_of_nonneg (by omega)]
  have h : ((n : Int) % 32).toNat = n % 32 := by omega
  rw [h]
  have := Nat.mod_lt n (show 0 < 32 by decide)
  show min (n % 32) 64 = n % 32
  omega
theorem sh_pow (n : Nat) : ((2 : Int) ^ (n % 32)) = ((2 ^ (n % 32) : Nat) : Int) := by rw [Int.natCast_pow]; rfl
theorem lf_w {l : List Nat} {n : Nat} (x : Lf l n) (hg : Lg l) : IntKind.u64.wrap (IntKind.u64.wrap ((l.getD x.k 0 : Nat) : Int) * 2 ^ min (Int.tmod (n : Int) 32).toNat IntKind.u64.bits) = ((x.w : Nat) : Int) := by
  have h1 := lg_at hg x.k
  have h2 := lf_w_lt n h1
  rw [sh_le, sh_pow, w64 (n := l.getD x.k 0) (by omega), ← Int.natCast_mul, w64 h2]
  rfl
theorem lf_o {l : List Nat} {n : Nat} (x : Lf l n) : bOr .u32 (IntKind.u32.wrap ((x.w : Nat) : Int)) ((x.c : Nat) : Int) = ((x.w % 4294967296 + x.c : Nat) : Int) := by
  have hP := P_le n
  have hc := x.hc
  rw [lo32 rfl]
  show IntKind.u32.wrap ((BitVec.ofInt 32 ((x.w % 4294967296 : Nat) : Int) ||| BitVec.ofInt 32 ((x.c : Nat) : Int)).toNat : Int) = _
  rw [BitVec.ofInt_natCast, BitVec.ofInt_natCast, BitVec.toNat_or, BitVec.toNat_ofNat, BitVec.toNat_ofNat, Nat.mod_eq_of_lt (Nat.mod_lt _ (by decide)), Nat.mod_eq_of_lt (show x.c < 2 ^ 32 by omega)]
  unfold Lf.w
  rw [lf_or hc, w32n (lf_lt hc)]
theorem lf_c {l : List Nat} {n : Nat} (x : Lf l n) (hg : Lg l) : IntKind.u32.wrap (Int.fdiv ((x.w : Nat) : Int) (2 ^ min (Int.toNat 32) IntKind.u64.bits)) = ((x.w / 4294967296 : Nat) : Int) := by
  have h1 := lf_hi n (lg_at hg x.k)
  have hP := P_le n
  rw [hi32 rfl, w32n (by unfold Lf.w; omega)]
theorem td32 (n : Nat) : Int.tdiv (n : Int) 32 = ((n / 32 : Nat) : Int) := by rw [Int.tdiv_eq_ediv_of_nonneg (by omega)]; rfl
theorem natLeft_ok (a n : Nat) (ha : (lim a).length ≤ 100000) (hn : n ≤ 1000000) : Fn Tryz.prog 174 [usD (lim a), .v (.int .i64 n)] (usD (lim (a * 2 ^ n))) := by
  have htd := td32 n
  refine fn_ev tabT Tryz.func174 rfl rfl rfl rfl rfl rfl ?_
  intro w0 s0 mx
  refine ev_R tabT [] 100 ?_
  refine ev_seq (ev_region tabT [1018] 200 rfl ?_)
  repeat (first | refine sat_same ?_ | refine sat_impA ?_ | refine sat_need (by first | (rw [td32]; omega) | (simp only [td32]; omega) | exact ⟨by decide, by rw [td32]; exact ini (by omega) (by omega)⟩ | (rw [td32]; exact ini (by omega) (by omega)) | (simp only [td32]; exact ini (by omega) (by omega)) | (simp only [td32]; refine ⟨?_, ?_⟩ <;> omega) | first | exact trivial | omega | exact ini (by omega) (by omega) | (intro hh; simp at hh; exact ini (by omega) (by omega)) | (intro hh; simp at hh ⊢; omega) | (simp at *; omega) | (simp_all; done)) ?_)
  refine sat_done (exS_normal ?_)
  refine ev_tell [0, 1] [] 210 [(5, .mo 108 (n / 32))] [(108, .mrow 48 1 (.map (List.replicate (n / 32) 0) uD 0))] ?_
  refine ⟨⟨⟨Sub.mo (by rw [td32]; omega), le_t⟩, ⟨SubO.mr (by rw [zrows, td32]; congr 3), le_o⟩, rfl, rfl⟩, ?_⟩
  refine ev_freeze 108 rfl (by repeat (first | exact trivial | exact (List.length_replicate).symm | refine ⟨?_, ?_⟩)) (by repeat (first | exact trivial | refine ⟨?_, ?_⟩)) ?_
  refine ev_R tabT [] 300 ?_
  refine ev_seq (ev_R tabT [] 400 ?_)
  refine ev_block ?_
  refine ev_loopK (ι := Lf (lim a) n) [1, 19, 20] [] 450 (fun x => [(21, .v (.int .i64 (x.k : Nat))), (6, .v (.int .u32 (x.c : Nat))), (5, .own 108 1 (x.o.map uD))]) (fun x => [(108, .row 48 1 (x.o.map uD).length)]) (fun x => (lim a).length - x.k) (Lf.start _ _) ?_
  refine ⟨⟨le_t, le_o, rfl, rfl⟩, fun x => ?_⟩
  have hk := x.le
  have hlo := x.lo
  have hc1 := x.hc
  have hP := P_le n
  have ew := lf_w x (lim_Dg a)
  have eo := lf_o x
  have ec := lf_c x (lim_Dg a)
  refine ev_R tabT [] 500 ?_
  refine ev_seq (ev_if (fun c4 => ?_) (fun c4 => ?_))
  ·
    refine ev_skip (exS_normal (ev_seq (ev_block (ev_R tabT [] 600 ?_))))
    refine ev_seq (ev_region tabT [] 700 rfl ?_)
    repeat (first | refine sat_same ?_ | refine sat_impA ?_ | refine sat_need (by first | (rw [Int.tmod_eq_emod_of_nonneg (by omega)]; omega) | first | exact trivial | omega | exact ini (by omega) (by omega) | (intro hh; simp at hh; exact ini (by omega) (by omega)) | (intro hh; simp at hh ⊢; omega) | (simp at *; omega) | (simp_all; done)) ?_)
    refine sat_done (exS_normal (ev_R tabT [] 800 ?_))
    refine ev_Q tabT [] 900 ?_
    refine exBl_normal (exS_normal (ev_Q tabT [] 1000 ?_))
    exact exL_normal (x.next (lim_Dg a) (by omega)) ⟨⟨Sub.int (by show (x.k : Int) + 1 = ((x.k + 1 : Nat) : Int); omega), Sub.int (by (try simp only [Int.toNat_natCast]); rw [ew]; exact ec), Sub.own (uD_snoc (by (try simp only [Int.toNat_natCast]); rw [ew]; exact eo)), le_t⟩, (by repeat (first | exact trivial | exact SubO.same rfl | exact ⟨rfl, rfl, by show _ = (List.map uD (x.o ++ _)).length; simp⟩ | refine ⟨?_, ?_⟩)), rfl, rfl⟩ (by show (lim a).length - (x.k + 1) < (lim a).length - x.k; omega)
  ·
    refine ev_exit (exS_exit (exL_exit (exBl_same (exS_normal ?_))))
    refine ev_seq (ev_region tabT [] 1100 rfl ?_)
    refine sat_go ?_
    refine sat_fn _ ((natTrim_ok (x.o ++ [x.c]) (x.lg.snoc (by omega)) (by simp; omega)).args ⟨SubP.ownSl (uD_snoc rfl), trivial⟩) rfl ?_
    refine sat_go ?_
    refine sat_done (exS_normal (ev_ret ?_))
    have e := (x.fin (by omega)).1
    rw [L_dig] at e
    exact FinV.ret rfl (SubP.of_eq (by rw [e]))
theorem or64r {h l : Nat} (hh : h < 4294967296) (hl : l < 4294967296) : bOr .u64 (IntKind.u64.wrap (l : Int)) (IntKind.u64.wrap (IntKind.u64.wrap (h : Int) * 2 ^ min (Int.toNat 32) IntKind.u64.bits)) = ((l + 4294967296 * h : Nat) : Int) := by
  have e := or64 hh hl
  rw [show l + 4294967296 * h = h * 4294967296 + l by omega, ← e]
  unfold bOr
  rw [BitVec.or_comm]
theorem rg_T {l : List Nat} {n : Nat} (x : Rg l n) (hg : Lg l) : bOr .u64 (IntKind.u64.wrap ((l.getD (n / 32 + x.k) 0 : Nat) : Int)) (IntKind.u64.wrap (IntKind.u64.wrap ((l.getD (n / 32 + x.k + 1) 0 : Nat) : Int) * 2 ^ min (Int.toNat 32) IntKind.u64.bits)) = ((x.w : Nat) : Int) := by
  rw [or64r (lg_at hg _) (lg_at hg _)]
  rfl
theorem rg_F {l : List Nat} {n : Nat} (x : Rg l n) (hg : Lg l) (h : l.length ≤ n / 32 + x.k + 1) : IntKind.u64.wrap ((l.getD (n / 32 + x.k) 0 : Nat) : Int) = ((x.w : Nat) : Int) := by
  have h1 := lg_at hg (n / 32 + x.k)
  unfold Rg.w
  rw [getD_geL h, w64 (by omega)]
  simp
theorem rg_l {n w : Nat} : IntKind.u32.wrap (Int.fdiv ((w : Nat) : Int) (2 ^ min (Int.tmod (n : Int) 32).toNat IntKind.u64.bits)) = ((w / 2 ^ (n % 32) % 4294967296 : Nat) : Int) := by
  rw [sh_le, fdiv_pow (sh_pow n), lo32 rfl]
theorem natRight_ok (a n : Nat) (ha : (lim a).length ≤ 100000) (hn : n ≤ 1000000) : Fn Tryz.prog 173 [usD (lim a), .v (.int .i64 n)] (usD (lim (a / 2 ^ n))) := by
  refine fn_ev tabT Tryz.func173 rfl rfl rfl rfl rfl rfl ?_
  intro w0 s0 mx
  refine ev_R tabT [] 100 ?_
  refine ev_R tabT [] 200 ?_
  refine ev_nilRow 5 48 1 rfl ?_
  refine ev_seq ?_
  refine ev_seq (ev_region tabT [] 300 rfl ?_)
  repeat (first | refine sat_same ?_ | refine sat_impA ?_ | refine sat_need (by first | exact ⟨by decide, by rw [td32]; exact ini (by omega) (by omega)⟩ | (rw [td32]; exact ini (by omega) (by omega)) | first | exact trivial | omega | exact ini (by omega) (by omega) | (intro hh; simp at hh; exact ini (by omega) (by omega)) | (intro hh; simp at hh ⊢; omega) | (simp at *; omega) | (simp_all; done)) ?_)
  refine sat_done (exS_normal (ev_block ?_))
  refine ev_loopK (ι := Rg (lim a) n) [0, 1] [] 350 (fun x => [(6, .v (.int .i64 (n / 32 + x.k : Nat))), (5, .own 200 1 (x.o.map uD))]) (fun x => [(200, .row 48 1 (x.o.map uD).length)]) (fun x => (lim a).length - (n / 32 + x.k)) (Rg.start _ _) ?_
  refine ⟨⟨⟨Sub.int (by rw [td32]; rfl), Sub.own rfl, le_t⟩, le_o, rfl, rfl⟩, fun x => ?_⟩
  have hk := x.le
  have hlo := x.lo
  refine ev_seq (ev_R tabT [] 400 ?_)
  refine ev_if (fun c3 => ?_) (fun c3 => ?_)
  ·
    refine ev_skip (exS_normal (ev_seq (ev_block (ev_R tabT [] 600 ?_))))
    refine ev_seq (ev_R tabT [] 700 ?_)
    refine ev_if (fun c6 => ?_) (fun c6 => ?_)
    ·
      refine ev_Q tabT [] 800 ?_
      refine exS_normal ?_
      refine ev_region tabT [] 900 rfl ?_
      repeat (first | refine sat_same ?_ | refine sat_impA ?_ | refine sat_need (by first | (rw [Int.tmod_eq_emod_of_nonneg (by omega)]; omega) | first | exact trivial | omega | exact ini (by omega) (by omega) | (intro hh; simp at hh; exact ini (by omega) (by omega)) | (intro hh; simp at hh ⊢; omega) | (simp at *; omega) | (simp_all; done)) ?_)
      refine sat_done (exBl_normal (exS_normal (ev_Q tabT [] 1000 ?_)))
      have hj : (((n / 32 + x.k : Nat) : Int) + 1).toNat = n / 32 + x.k + 1 := by omega
      have e := rg_T x (lim_Dg a)
      exact exL_normal (x.next (lim_Dg a) (by omega)) ⟨⟨Sub.int (by show ((n / 32 + x.k : Nat) : Int) + 1 = ((n / 32 + (x.k + 1) : Nat) : Int); omega), Sub.own (uD_snoc (by (try simp only [hj, Int.toNat_natCast]); rw [e]; exact rg_l)), le_t⟩, (by repeat (first | exact trivial | exact SubO.same rfl | exact ⟨rfl, rfl, by show _ = (List.map uD (x.o ++ _)).length; simp⟩ | refine ⟨?_, ?_⟩)), rfl, rfl⟩ (by show (lim a).length - (n / 32 + (x.k + 1)) < (lim a).length - (n / 32 + x.k); omega)
    ·
      refine ev_skip (exS_normal ?_)
      refine ev_region tabT [] 900 rfl ?_
      repeat (first | refine sat_same ?_ | refine sat_impA ?_ | refine sat_need (by first | (rw [Int.tmod_eq_emod_of_nonneg (by omega)]; omega) | first | exact trivial | omega | exact ini (by omega) (by omega) | (intro hh; simp at hh; exact ini (by omega) (by omega)) | (intro hh; simp at hh ⊢; omega) | (simp at *; omega) | (simp_all; done)) ?_)
      refine sat_done (exBl_normal (exS_normal (ev_Q tabT [] 1000 ?_)))
      have hj : (((n / 32 + x.k : Nat) : Int) + 1).toNat = n / 32 + x.k + 1 := by omega
      have e := rg_F x (lim_Dg a) (by omega)
      exact exL_normal (x.next (lim_Dg a) (by omega)) ⟨⟨Sub.int (by show ((n / 32 + x.k : Nat) : Int) + 1 = ((n / 32 + (x.k + 1) : Nat) : Int); omega), Sub.own (uD_snoc (by (try simp only [hj, Int.toNat_natCast]); rw [e]; exact rg_l)), le_t⟩, (by repeat (first | exact trivial | exact SubO.same rfl | exact ⟨rfl, rfl, by show _ = (List.map uD (x.o ++ _)).length; simp⟩ | refine ⟨?_, ?_⟩)), rfl, rfl⟩ (by show (lim a).length - (n / 32 + (x.k + 1)) < (lim a).length - (n / 32 + x.k); omega)
  ·
    refine ev_exit (exS_exit (exL_exit (exBl_same (exS_normal ?_))))
    refine ev_seq (ev_region tabT [] 1000 rfl ?_)
    refine sat_go ?_
    refine sat_fn _ ((natTrim_ok x.o x.lg (by omega)).args ⟨SubP.ownSl rfl, trivial⟩) rfl ?_
    refine sat_go ?_
    refine sat_done (exS_normal (ev_ret ?_))
    have e := x.fin (lim_Dg a) (by omega)
    rw [L_dig] at e
    exact FinV.ret rfl (SubP.of_eq (by rw [e]))
end Go.Proofs.YtnkjenaanjnihaaGreatDoor


/- Walks by the evaluator: integers of the program: plus, Add, Sub, Mul, Cmp. -/
namespace Go.Proofs.YtnkjenaanjnihaaGreatDoor
open Go.RowKit
variable {md me : Bool}
theorem cmpN_neg (x y : Nat) : cmpN x y < 0 ↔ x < y := by
  unfold cmpN
  split
  · exact ⟨fun _ => by assumption, fun _ => by decide⟩
  · constructor
    · intro h; split at h <;> exact absurd h (by decide)
    · intro h; contradiction
def plSg (s : Bool) (x : Nat) (t : Bool) (y : Nat) : Bool := if s = t then s else if x < y then t else s
def plN (s : Bool) (x : Nat) (t : Bool) (y : Nat) : Nat := if s = t then x + y else if x < y then y - x else x - y
theorem plZ (s t : Bool) (x y : Nat) : ZI (plSg s x t y) (plN s x t y) = ZI s x + ZI t y := by
  unfold plSg plN
  by_cases h : s = t
  · subst h
    rw [if_pos rfl, if_pos rfl]
    cases s <;> unfold ZI <;> simp <;> omega
  · rw [if_neg h, if_neg h]
    by_cases h2 : x < y
    · rw [if_pos h2, if_pos h2]
      cases s <;> cases t <;> unfold ZI <;> simp at * <;> omega
    · rw [if_neg h2, if_neg h2]
      cases s <;> cases t <;> unfold ZI <;> simp at * <;> omega
theorem zOk {z : Int} (h : (lim z.natAbs).length ≤ 128) : intOk (decide (z < 0)) (lim z.natAbs) = true := by
  unfold intOk
  rw [Bool.and_eq_true, Bool.or_eq_true, Bool.and_eq_true, Bool.and_eq_true, decide_eq_true_eq, decide_eq_true_eq, decide_eq_true_eq, decide_eq_true_eq]
  refine ⟨h, ?_⟩
  rcases Nat.eq_zero_or_pos (lim z.natAbs).length with h0 | h0
  · refine Or.inl ⟨h0, ?_⟩
    have h1 := lim_nil.1 (List.eq_nil_of_length_eq_zero h0)
    have h2 : z = 0 := by omega
    subst h2
    rfl
  · exact Or.inr ⟨h0, lim_top h0⟩
theorem ZI_not (b : Int) : ZI (!decide (b < 0)) b.natAbs = -b := by
  unfold ZI
  by_cases h : b < 0
  · simp [h]; omega
  · simp [h]; omega
end Go.Proofs.YtnkjenaanjnihaaGreatDoor


/- Walks by the evaluator: integers of the program: Cmp. -/
namespace Go.Proofs.YtnkjenaanjnihaaGreatDoor
open Go.RowKit
variable {md me : Bool}
end Go.Proofs.YtnkjenaanjnihaaGreatDoor


/- Walks by the evaluator: ranges of the program: at, add, sub, mul, less. -/
namespace Go.Proofs.YtnkjenaanjnihaaGreatDoor
open Go.RowKit
variable {md me : Bool}
end Go.Proofs.YtnkjenaanjnihaaGreatDoor


/- Walks by the evaluator: what objects and classes have under a name. -/
namespace Go.Proofs.YtnkjenaanjnihaaGreatDoor
open Go.RowKit
variable {md me : Bool}
end Go.Proofs.YtnkjenaanjnihaaGreatDoor


/- Walks by the evaluator: compare: value, raise, object, Judge. -/
namespace Go.Proofs.YtnkjenaanjnihaaGreatDoor
open Go.RowKit
variable {md me : Bool}
end Go.Proofs.YtnkjenaanjnihaaGreatDoor


/- Guessing one limb of a quotient. Plain. -/
namespace Go.Proofs.YtnkjenaanjnihaaGreatDoor
structure KD (U V H u2 v1 v2 : Nat) where
  E : Nat
  u' : Nat
  v' : Nat
  hU : U = H * (4294967296 * E) + u2 * E + u'
  hV : V = v1 * (4294967296 * E) + v2 * E + v'
  lu : u' < E
  lv : v' < E
  lu2 : u2 < 4294967296
  lv2 : v2 < 4294967296
  lv1 : 0 < v1
  lt : U < V * 4294967296
theorem kd_split {g v1 r H : Nat} (e : g * v1 + r = H) (E : Nat) : H * (4294967296 * E) = g * v1 * (4294967296 * E) + r * 4294967296 * E := by rw [← e, Nat.add_mul, Nat.mul_assoc r]
section
variable {U V H u2 v1 v2 : Nat} (K : KD U V H u2 v1 v2)
include K
theorem KD.V_pos : 0 < V := by
  have h1 := K.lv
  have h2 := K.lv1
  have h3 : 0 < v1 * (4294967296 * K.E) := Nat.mul_pos h2 (by omega)
  have := K.hV
  omega
theorem KD.V_lt : V < (v1 + 1) * (4294967296 * K.E) := by
  have h1 := K.hV
  have h2 : (v2 + 1) * K.E ≤ 4294967296 * K.E := Nat.mul_le_mul_right _ K.lv2
  have h3 := K.lv
  rw [Nat.add_mul] at h2 ⊢
  omega
theorem KD.U_lt : U < (H + 1) * (4294967296 * K.E) := by
  have h1 := K.hU
  have h2 : (u2 + 1) * K.E ≤ 4294967296 * K.E := Nat.mul_le_mul_right _ K.lu2
  have h3 := K.lu
  rw [Nat.add_mul] at h2 ⊢
  omega
theorem KD.H_lt : H < (v1 + 1) * 4294967296 := by
  have h1 := K.V_lt
  have h2 := K.lt
  have h3 : V * 4294967296 < (v1 + 1) * (4294967296 * K.E) * 4294967296 := by omega
  have h4 : H * (4294967296 * K.E) < (v1 + 1) * 4294967296 * (4294967296 * K.E) := by
    have := K.hU
    rw [Nat.mul_right_comm (v1 + 1)]
    omega
  exact Nat.lt_of_mul_lt_mul_right h4
theorem KD.q_lt : U / V < 4294967296 := (Nat.div_lt_iff_lt_mul K.V_pos).2 (by rw [Nat.mul_comm]; exact K.lt)
theorem KD.q_le : U / V ≤ H / v1 := by
  rw [Nat.le_div_iff_mul_le K.lv1]
  have h1 : U / V * V ≤ U := Nat.div_mul_le_self U V
  have h2 := K.U_lt
  have h3 : U / V * v1 * (4294967296 * K.E) ≤ U / V * V := by
    rw [Nat.mul_assoc]
    refine Nat.mul_le_mul_left _ ?_
    have := K.hV
    omega
  exact Nat.le_of_lt_succ (Nat.lt_of_mul_lt_mul_right (Nat.lt_of_le_of_lt (Nat.le_trans h3 h1) h2))
theorem KD.down {g r : Nat} (e : g * v1 + r = H) (hq : U / V ≤ g) (h : 4294967296 ≤ g ∨ r * 4294967296 + u2 < g * v2) : U / V < g := by
  rcases Nat.lt_or_ge (U / V) g with h0 | h0
  · exact h0
  · exfalso
    have hb := K.q_lt
    have h := h.resolve_left (by omega)
    have h1 : g * V ≤ U := Nat.le_trans (Nat.mul_le_mul_right _ h0) (Nat.div_mul_le_self U V)
    rw [K.hV, Nat.mul_add, Nat.mul_add, ← Nat.mul_assoc, ← Nat.mul_assoc g v2] at h1
    have h2 := K.hU
    have h3 := K.lu
    have h4 := kd_split e K.E
    have h5 : (r * 4294967296 + u2 + 1) * K.E ≤ g * v2 * K.E := Nat.mul_le_mul_right _ h
    rw [Nat.add_mul, Nat.add_mul] at h5
    omega
theorem KD.fin {g r : Nat} (e : g * v1 + r = H) (hq : U / V ≤ g) (h : 4294967296 ≤ r ∨ g < 4294967296 ∧ g * v2 ≤ r * 4294967296 + u2) : g < 4294967296 ∧ g ≤ U / V + 1 := by
  have hU := K.hU
  have h4 := kd_split e K.E
  have hV : g * V = g * v1 * (4294967296 * K.E) + g * v2 * K.E + g * K.v' := by
    conv => lhs; rw [K.hV]
    rw [Nat.mul_add, Nat.mul_add, ← Nat.mul_assoc, ← Nat.mul_assoc g v2]
  have hg : g < 4294967296 := by
    rcases h with h | h
    · have h1 := K.H_lt
      rw [Nat.add_mul] at h1
      have h2 : g * v1 < 4294967296 * v1 := by rw [Nat.mul_comm 4294967296]; omega
      exact Nat.lt_of_mul_lt_mul_right h2
    · exact h.1
  refine ⟨hg, ?_⟩
  have hv' : g * K.v' ≤ 4294967296 * K.E := Nat.mul_le_mul (Nat.le_of_lt hg) (Nat.le_of_lt K.lv)
  have hVp := K.V_pos
  rcases h with h | h
  · have h1 : (v2 * K.E + K.v') ≤ 4294967296 * K.E := by
      have h2 : (v2 + 1) * K.E ≤ 4294967296 * K.E := Nat.mul_le_mul_right _ K.lv2
      have h3 := K.lv
      rw [Nat.add_mul] at h2
      omega
    have h2 : g * (v2 * K.E + K.v') ≤ r * (4294967296 * K.E) := Nat.mul_le_mul (by omega) h1
    rw [Nat.mul_add, ← Nat.mul_assoc, ← Nat.mul_assoc] at h2
    have : g * V ≤ U := by omega
    have := (Nat.le_div_iff_mul_le hVp).2 this
    omega
  · have h1 : g * v2 * K.E ≤ (r * 4294967296 + u2) * K.E := Nat.mul_le_mul_right _ h.2
    rw [Nat.add_mul] at h1
    have h2 : 4294967296 * K.E ≤ V := by
      have h3 : 1 * (4294967296 * K.E) ≤ v1 * (4294967296 * K.E) := Nat.mul_le_mul_right _ K.lv1
      have := K.hV
      omega
    have h3 : g * V ≤ U + V := by omega
    have h4 : (g - 1) * V ≤ U := by rw [Nat.sub_mul]; omega
    have := (Nat.le_div_iff_mul_le hVp).2 h4
    omega
end
end Go.Proofs.YtnkjenaanjnihaaGreatDoor


/- One limb of a quotient: guessed, subtracted, added back. Plain. -/
namespace Go.Proofs.YtnkjenaanjnihaaGreatDoor
theorem kd_lists {u v : List Nat} {n : Nat} (hu : u.length = n + 1) (hv : v.length = n) (hn : 2 ≤ n) (gu : Lg u) (gv : Lg v) (ht : 0 < v.getD (n - 1) 0) (h : VL u < VL v * 4294967296) :
    Nonempty (KD (VL u) (VL v) (u.getD n 0 * 4294967296 + u.getD (n - 1) 0) (u.getD (n - 2) 0) (v.getD (n - 1) 0) (v.getD (n - 2) 0)) := by
  obtain ⟨m, rfl⟩ : ∃ m, n = m + 2 := ⟨n - 2, by omega⟩
  rw [show m + 2 - 1 = m + 1 by omega, show m + 2 - 2 = m by omega] at *
  have t1 := top_V hu
  have t2 := VL_take_one u (m + 1)
  have t3 := VL_take_one u m
  have s1 := top_V (l := v) (n := m + 1) hv
  have s2 := VL_take_one v m
  have lu := L_lt (gu.take m)
  have lv := L_lt (gv.take m)
  rw [List.length_take, Nat.min_eq_left (by omega)] at lu lv
  have p1 : 4294967296 ^ (m + 1) = 4294967296 * 4294967296 ^ m := by rw [Nat.pow_succ, Nat.mul_comm]
  have p2 : 4294967296 ^ (m + 2) = 4294967296 * (4294967296 * 4294967296 ^ m) := by rw [Nat.pow_succ, Nat.pow_succ, Nat.mul_comm, Nat.mul_comm (4294967296 ^ m)]
  rw [p2] at t1
  rw [p1] at t2 s1
  refine ⟨⟨4294967296 ^ m, VL (u.take m), VL (v.take m), ?_, ?_, lu, lv, lg_at gu _, lg_at gv _, ht, h⟩⟩
  · rw [t1, t2, t3, Nat.add_mul, Nat.mul_comm (4294967296 ^ m), Nat.mul_comm (u.getD (m + 2) 0 * 4294967296), Nat.mul_comm (u.getD (m + 1) 0)]
    have e : 4294967296 * (4294967296 * 4294967296 ^ m) * u.getD (m + 2) 0 = 4294967296 * 4294967296 ^ m * (u.getD (m + 2) 0 * 4294967296) := by
      rw [Nat.mul_comm (u.getD (m + 2) 0), ← Nat.mul_assoc (4294967296 * 4294967296 ^ m), Nat.mul_comm 4294967296 (4294967296 * 4294967296 ^ m)]
    omega
  · rw [s1, s2, Nat.mul_comm (4294967296 ^ m), Nat.mul_comm (v.getD (m + 1) 0)]
    omega
structure Gu (U V H v1 : Nat) where
  g : Nat
  r : Nat
  e : g * v1 + r = H
  q : U / V ≤ g
  lr : r < 4294967296
def Gu.start {U V H u2 v1 v2 : Nat} (K : KD U V H u2 v1 v2) (h : v1 < 4294967296) : Gu U V H v1 := ⟨H / v1, H % v1, by rw [Nat.mul_comm]; exact Nat.div_add_mod H v1, K.q_le, Nat.lt_trans (Nat.mod_lt _ K.lv1) h⟩
theorem Gu.pos {U V H u2 v1 v2 : Nat} (x : Gu U V H v1) (K : KD U V H u2 v1 v2) (h : 4294967296 ≤ x.g ∨ x.r * 4294967296 + u2 < x.g * v2) : U / V ≤ x.g - 1 ∧ 0 < x.g ∧ (x.g - 1) * v1 + (x.r + v1) = H := by
  have h1 := K.down x.e x.q h
  have h2 := x.e
  have h0 : 0 < x.g := Nat.lt_of_le_of_lt (Nat.zero_le _) h1
  refine ⟨Nat.le_sub_one_of_lt h1, h0, ?_⟩
  have h3 : (x.g - 1 + 1) * v1 = (x.g - 1) * v1 + v1 := by rw [Nat.add_mul, Nat.one_mul]
  rw [show x.g - 1 + 1 = x.g from Nat.sub_add_cancel h0] at h3
  clear h1 h
  omega
def Gu.next {U V H u2 v1 v2 : Nat} (x : Gu U V H v1) (K : KD U V H u2 v1 v2) (h : 4294967296 ≤ x.g ∨ x.r * 4294967296 + u2 < x.g * v2) (hr : x.r + v1 < 4294967296) : Gu U V H v1 := ⟨x.g - 1, x.r + v1, (x.pos K h).2.2, (x.pos K h).1, hr⟩
theorem Gu.stop {U V H u2 v1 v2 : Nat} (x : Gu U V H v1) (K : KD U V H u2 v1 v2) (h : 4294967296 ≤ x.g ∨ x.r * 4294967296 + u2 < x.g * v2) (hr : 4294967296 ≤ x.r + v1) : x.g - 1 < 4294967296 ∧ U / V ≤ x.g - 1 ∧ x.g - 1 ≤ U / V + 1 :=
  have h1 := K.fin (x.pos K h).2.2 (x.pos K h).1 (Or.inl hr)
  ⟨h1.1, (x.pos K h).1, h1.2⟩
theorem Gu.done {U V H u2 v1 v2 : Nat} (x : Gu U V H v1) (K : KD U V H u2 v1 v2) (h : x.g < 4294967296) (h2 : x.g * v2 ≤ x.r * 4294967296 + u2) : x.g < 4294967296 ∧ U / V ≤ x.g ∧ x.g ≤ U / V + 1 :=
  have h1 := K.fin x.e x.q (Or.inr ⟨h, h2⟩)
  ⟨h1.1, x.q, h1.2⟩
structure SuD (u v : List Nat) (g : Nat) where
  k : Nat
  c : Nat
  b : Nat
  o : List Nat
  eq : VL o + g * VL (v.take k) = VL (u.take k) + (b + c) * 4294967296 ^ k
  lo : o.length = k
  lg : Lg o
  hc : c < 4294967296
  hb : b ≤ 1
  h0 : v.length < k → c = 0
  le : k ≤ u.length
def SuD.start (u v : List Nat) (g : Nat) : SuD u v g := ⟨0, 0, 0, [], by simp [VL], rfl, Lg.nil, by decide, by decide, fun _ => rfl, Nat.zero_le _⟩
def SuD.s {u v : List Nat} {g : Nat} (x : SuD u v g) : Nat := x.c + g * v.getD x.k 0
theorem SuD.s_lt {u v : List Nat} {g : Nat} (x : SuD u v g) (hg : g < 4294967296) (gv : Lg v) : x.s < 18446744073709551616 := by
  have h1 := mul_lt32 hg (lg_at gv x.k)
  have h3 := x.hc
  unfold SuD.s
  omega
theorem su_step {u v o : List Nat} {g k c b s y d : Nat} (h : VL o + g * VL (v.take k) = VL (u.take k) + (b + c) * 4294967296 ^ k) (ho : o.length = k) (hs : s = c + g * v.getD k 0) (hy : y + s % 4294967296 + b = u.getD k 0 + 4294967296 * d) :
    VL (o ++ [y]) + g * VL (v.take (k + 1)) = VL (u.take (k + 1)) + (d + s / 4294967296) * 4294967296 ^ (k + 1) := by
  rw [L_snoc, ho, VL_take_one u, VL_take_one v, Nat.pow_succ, Nat.mul_add g]
  have e0 : g * (4294967296 ^ k * v.getD k 0) = 4294967296 ^ k * (g * v.getD k 0) := Nat.mul_left_comm _ _ _
  rw [e0]
  generalize 4294967296 ^ k = B at *
  generalize g * v.getD k 0 = M at *
  generalize g * VL (v.take k) = R at *
  have e : s = 4294967296 * (s / 4294967296) + s % 4294967296 := (Nat.div_add_mod s 4294967296).symm
  have e1 : y + b + c + M = u.getD k 0 + 4294967296 * (d + s / 4294967296) := by omega
  have e2 : B * y + B * b + B * c + B * M = B * u.getD k 0 + B * (4294967296 * (d + s / 4294967296)) := by rw [← Nat.mul_add, ← Nat.mul_add, ← Nat.mul_add, e1, Nat.mul_add]
  have e4 : (d + s / 4294967296) * (B * 4294967296) = B * (4294967296 * (d + s / 4294967296)) := by rw [Nat.mul_comm, Nat.mul_assoc]
  have e5 : (b + c) * B = B * b + B * c := by rw [Nat.add_mul, Nat.mul_comm b, Nat.mul_comm c]
  omega
def SuD.next {u v : List Nat} {g : Nat} (x : SuD u v g) (gu : Lg u) (gv : Lg v) (hg : g < 4294967296) (h : x.k < u.length) : SuD u v g := ⟨x.k + 1, x.s / 4294967296, lsB (u.getD x.k 0) (x.s % 4294967296) x.b, x.o ++ [lsD (u.getD x.k 0) (x.s % 4294967296) x.b], su_step x.eq x.lo rfl (sb_eq (lg_at gu _) (Nat.mod_lt _ (by decide)) x.hb), by simp [x.lo], x.lg.snoc (sb_lt _ _ _), by have := x.s_lt hg gv; omega, lsB_le _ _ _, fun h1 => by
  have h2 : x.s = x.c := by unfold SuD.s; rw [getD_geL (by omega)]; omega
  rw [h2]
  exact Nat.div_eq_of_lt x.hc, h⟩
theorem SuD.fin {u v : List Nat} {g : Nat} (x : SuD u v g) (h : u.length ≤ x.k) (hl : v.length < u.length) : VL x.o + g * VL v = VL u + x.b * 4294967296 ^ u.length ∧ x.o.length = u.length := by
  have hk := x.le
  have e : x.k = u.length := by omega
  have h1 := x.eq
  rw [x.h0 (by omega), e, List.take_of_length_le (Nat.le_refl _), List.take_of_length_le (by omega)] at h1
  exact ⟨h1, by rw [x.lo, e]⟩
theorem dg_exact {u v : List Nat} {g : Nat} (x : SuD u v g) (h : u.length ≤ x.k) (hl : v.length < u.length) (hb : x.b = 0) (hp : 0 < VL v) (hq : VL u / VL v ≤ g) : g = VL u / VL v ∧ VL x.o = VL u % VL v := by
  have h1 := (x.fin h hl).1
  rw [hb] at h1
  have h2 : g * VL v ≤ VL u := by omega
  have h3 := (Nat.le_div_iff_mul_le hp).2 h2
  have e : g = VL u / VL v := by omega
  refine ⟨e, ?_⟩
  have h4 := Nat.div_add_mod (VL u) (VL v)
  rw [← e, Nat.mul_comm] at h4
  omega
theorem ad_fin {w v : List Nat} {n : Nat} (x : PlL w v) (hw : w.length = n + 1) (hv : v.length = n) (hk : x.k = n) : VL (x.o ++ [(w.getD n 0 + x.c) % 4294967296]) + (w.getD n 0 + x.c) / 4294967296 * 4294967296 ^ (n + 1) = VL w + VL v := by
  have h1 := x.eq
  rw [hk, List.take_of_length_le (l := v) (by omega)] at h1
  rw [L_snoc, x.lo, hk, top_V hw, Nat.pow_succ]
  generalize w.getD n 0 = t at *
  generalize x.c = c at *
  generalize 4294967296 ^ n = B at *
  have e := Nat.div_add_mod (t + c) 4294967296
  have e2 : B * (t + c) = B * (4294967296 * ((t + c) / 4294967296)) + B * ((t + c) % 4294967296) := by rw [← Nat.mul_add, e]
  have e3 : B * (t + c) = B * t + B * c := Nat.mul_add _ _ _
  have e4 : (t + c) / 4294967296 * (B * 4294967296) = B * (4294967296 * ((t + c) / 4294967296)) := by rw [Nat.mul_comm, Nat.mul_assoc]
  have e5 : c * B = B * c := Nat.mul_comm _ _
  omega
theorem dg_back {u v : List Nat} {g n : Nat} (x : SuD u v g) (hu : u.length = n + 1) (hv : v.length = n) (h : u.length ≤ x.k) (gv : Lg v) (hb : x.b = 1) (hp : 0 < VL v) (hq : g ≤ VL u / VL v + 1) (y : PlL x.o v) (hk : y.k = n) :
    0 < g ∧ g - 1 = VL u / VL v ∧ VL (y.o ++ [(x.o.getD n 0 + y.c) % 4294967296]) = VL u % VL v := by
  obtain ⟨h1, h2⟩ := x.fin h (by omega)
  rw [hb, hu] at h1
  have h3 := ad_fin y (by omega) hv hk
  have h4 := L_lt x.lg
  rw [h2, hu] at h4
  have h5 : Lg (y.o ++ [(x.o.getD n 0 + y.c) % 4294967296]) := y.lg.snoc (Nat.mod_lt _ (by decide))
  have h6 := L_lt h5
  rw [List.length_append, y.lo, hk, List.length_singleton] at h6
  have h7 : VL u < g * VL v := by omega
  have h8 : VL u / VL v < g := (Nat.div_lt_iff_lt_mul hp).2 h7
  have e : g = VL u / VL v + 1 := Nat.le_antisymm hq h8
  have h9 := Nat.div_add_mod (VL u) (VL v)
  have h10 := Nat.mod_lt (VL u) hp
  have h11 := L_lt gv
  rw [hv] at h11
  have h12 : 4294967296 ^ n ≤ 4294967296 ^ (n + 1) := Nat.pow_le_pow_right (by decide) (by omega)
  refine ⟨by rw [e]; exact Nat.succ_pos _, by rw [e]; exact Nat.add_sub_cancel _ _, ?_⟩
  have h13 : g * VL v = VL v * (VL u / VL v) + VL v := by rw [e, Nat.add_mul, Nat.one_mul, Nat.mul_comm]
  generalize VL (y.o ++ [(x.o.getD n 0 + y.c) % 4294967296]) = R at *
  generalize (x.o.getD n 0 + y.c) / 4294967296 = d at *
  generalize 4294967296 ^ (n + 1) = B at *
  generalize VL v * (VL u / VL v) = Q at *
  generalize VL u % VL v = M at *
  clear h7 h8 hq
  have h14 : R + d * B = M + B := by omega
  have h15 : d = 1 := by
    rcases Nat.lt_or_ge d 1 with h16 | h16
    · rw [show d = 0 by omega] at h14; omega
    · rcases Nat.lt_or_ge d 2 with h17 | h17
      · omega
      · have : 2 * B ≤ d * B := Nat.mul_le_mul_right _ h17
        omega
  rw [h15] at h14
  omega
end Go.Proofs.YtnkjenaanjnihaaGreatDoor


/- Dividing limb by limb. Plain. -/
namespace Go.Proofs.YtnkjenaanjnihaaGreatDoor
theorem win_V {U : List Nat} {j n V : Nat} (hg : Lg U) (hj : j + n + 1 ≤ U.length) (hV : V ≤ 4294967296 ^ n) (hlt : VL (U.drop (j + 1)) < V) :
    VL ((U.drop j).take (n + 1)) = VL (U.drop j) ∧ VL ((U.drop j).take (n + 1)) < V * 4294967296 ∧ VL (U.drop (j + n + 1)) = 0 ∧ VL (U.drop j) = U.getD j 0 + 4294967296 * VL (U.drop (j + 1)) := by
  have h1 := VL_drop_one U j
  have h2 := lg_at hg j
  have h3 := L_take_drop (U.drop j) (n + 1) (by rw [List.length_drop]; omega)
  rw [List.drop_drop, ← Nat.add_assoc] at h3
  have h4 : VL (U.drop j) < V * 4294967296 := by omega
  have h5 : V * 4294967296 ≤ 4294967296 ^ (n + 1) := by rw [Nat.pow_succ]; exact Nat.mul_le_mul_right _ hV
  have h6 : VL (U.drop (j + n + 1)) = 0 := by
    rcases Nat.eq_zero_or_pos (VL (U.drop (j + n + 1))) with h | h
    · exact h
    · have : 4294967296 ^ (n + 1) * 1 ≤ 4294967296 ^ (n + 1) * VL (U.drop (j + n + 1)) := Nat.mul_le_mul_left _ h
      omega
  rw [h6, Nat.mul_zero, Nat.add_zero] at h3
  exact ⟨h3.symm, by omega, h6, h1⟩
structure DvL (u v : List Nat) (m n : Nat) where
  k : Nat
  U : List Nat
  o : List Nat
  hU : U.length = m + n
  gU : Lg U
  ho : o.length = m
  go : Lg o
  low : U.take k = u.take k
  lt : VL (U.drop k) < VL v
  eq : VL (u.drop k) = VL (o.drop k) * VL v + VL (U.drop k)
  le : k ≤ m
def DvL.start {u v : List Nat} {m n : Nat} (hu : u.length = m + n) (gu : Lg u) (h : VL (u.drop m) < VL v) : DvL u v m n :=
  ⟨m, u, List.replicate m 0, hu, gu, by simp, Lg_zeros _, rfl, h, by rw [List.drop_of_length_le (l := List.replicate m 0) (by simp), L_nil, Nat.zero_mul, Nat.zero_add], Nat.le_refl _⟩
theorem drop_ge_congr {u U : List Nat} {k j : Nat} (h : U.take k = u.take k) (hj : j < k) : U.getD j 0 = u.getD j 0 := by
  have : (U.take k)[j]? = (u.take k)[j]? := by rw [h]
  rw [List.getElem?_take, List.getElem?_take, if_pos hj, if_pos hj] at this
  rw [List.getD_eq_getElem?_getD, List.getD_eq_getElem?_getD, this]
section
variable {u v : List Nat} {m n : Nat}
def DvL.W (x : DvL u v m n) : List Nat := (x.U.drop (x.k - 1)).take (n + 1)
def DvL.q (x : DvL u v m n) : Nat := VL x.W / VL v
def DvL.R (x : DvL u v m n) : List Nat := x.U.take (x.k - 1) ++ limN (n + 1) (VL x.W % VL v) ++ x.U.drop (x.k - 1 + n + 1)
theorem DvL.facts (x : DvL u v m n) (gv : Lg v) (hv : v.length = n) (h : 0 < x.k) : VL x.W = VL (x.U.drop (x.k - 1)) ∧ VL x.W < VL v * 4294967296 ∧ VL (x.U.drop (x.k - 1 + n + 1)) = 0 ∧ VL (x.U.drop (x.k - 1)) = x.U.getD (x.k - 1) 0 + 4294967296 * VL (x.U.drop x.k) ∧ x.W.length = n + 1 ∧ Lg x.W ∧ x.q < 4294967296 := by
  have h1 := x.le
  have h2 := x.hU
  have h3 := L_lt gv
  rw [hv] at h3
  have h4 : x.k - 1 + 1 = x.k := by omega
  have h5 := win_V (U := x.U) (j := x.k - 1) (n := n) (V := VL v) x.gU (by omega) (Nat.le_of_lt h3) (by rw [h4]; exact x.lt)
  rw [h4] at h5
  refine ⟨h5.1, h5.2.1, h5.2.2.1, h5.2.2.2, by unfold DvL.W; rw [List.length_take, List.length_drop]; omega, fun y hy => x.gU y (List.mem_of_mem_drop (List.mem_of_mem_take hy)), ?_⟩
  unfold DvL.q
  have hp : 0 < VL v := Nat.lt_of_le_of_lt (Nat.zero_le _) x.lt
  rw [Nat.div_lt_iff_lt_mul hp, Nat.mul_comm]
  exact h5.2.1
theorem DvL.rlt (x : DvL u v m n) (gv : Lg v) (hv : v.length = n) : VL x.W % VL v < 4294967296 ^ (n + 1) := by
  have h3 := L_lt gv
  rw [hv] at h3
  have hp : 0 < VL v := Nat.lt_of_le_of_lt (Nat.zero_le _) x.lt
  have h4 := Nat.mod_lt (VL x.W) hp
  have h5 : 4294967296 ^ n ≤ 4294967296 ^ (n + 1) := Nat.pow_le_pow_right (by decide) (by omega)
  omega
theorem DvL.Rd (x : DvL u v m n) (gv : Lg v) (hv : v.length = n) (h : 0 < x.k) : x.R.length = m + n ∧ x.R.take (x.k - 1) = u.take (x.k - 1) ∧ VL (x.R.drop (x.k - 1)) = VL x.W % VL v ∧ Lg x.R := by
  have h1 := x.le
  have h2 := x.hU
  obtain ⟨f1, f2, f3, f4, f5, f6, f7⟩ := x.facts gv hv h
  have ht : (x.U.take (x.k - 1)).length = x.k - 1 := by rw [List.length_take]; omega
  refine ⟨?_, ?_, ?_, ?_⟩
  · unfold DvL.R
    rw [List.length_append, List.length_append, limN_len, List.length_drop, ht]
    omega
  · unfold DvL.R
    rw [List.append_assoc, List.take_append_of_le_length (by omega), List.take_take, Nat.min_self]
    have := x.low
    have e : x.k - 1 = min (x.k - 1) x.k := by omega
    rw [e, ← List.take_take, this, List.take_take]
  · unfold DvL.R
    rw [List.append_assoc, List.drop_append, List.drop_of_length_le (by omega), ht, Nat.sub_self, List.drop_zero, List.nil_append, L_append, f3, Nat.mul_zero, Nat.add_zero, V_limN (x.rlt gv hv)]
  · unfold DvL.R
    intro y hy
    rcases List.mem_append.1 hy with hy | hy
    · rcases List.mem_append.1 hy with hy | hy
      · exact x.gU y (List.mem_of_mem_take hy)
      · exact limN_Lg _ _ y hy
    · exact x.gU y (List.mem_of_mem_drop hy)
theorem dv_step {a b q V W Q R S : Nat} (h1 : b = Q * V + S) (h2 : a + 4294967296 * S = W) (hq : V * q + R = W) : a + 4294967296 * b = (q + 4294967296 * Q) * V + R := by
  rw [h1, Nat.mul_add, Nat.add_mul, Nat.mul_comm q V, Nat.mul_assoc 4294967296 Q V]
  omega
def DvL.next (x : DvL u v m n) (gv : Lg v) (hv : v.length = n) (h : 0 < x.k) : DvL u v m n :=
  ⟨x.k - 1, x.R, x.o.set (x.k - 1) x.q, (x.Rd gv hv h).1, (x.Rd gv hv h).2.2.2, by rw [List.length_set]; exact x.ho, Lg.set x.go _ (x.facts gv hv h).2.2.2.2.2.2, (x.Rd gv hv h).2.1, by
    rw [(x.Rd gv hv h).2.2.1]
    exact Nat.mod_lt _ (Nat.lt_of_le_of_lt (Nat.zero_le _) x.lt), by
    have h1 := x.le
    have h2 := x.ho
    obtain ⟨f1, f2, f3, f4, f5, f6, f7⟩ := x.facts gv hv h
    rw [(x.Rd gv hv h).2.2.1, VL_drop_one u, VL_drop_one (x.o.set (x.k - 1) x.q), show x.k - 1 + 1 = x.k by omega, ← drop_ge_congr x.low (show x.k - 1 < x.k by omega)]
    have e1 : (x.o.set (x.k - 1) x.q).getD (x.k - 1) 0 = x.q := by rw [List.getD_eq_getElem?_getD, List.getElem?_set_self (by omega)]; rfl
    have e2 : (x.o.set (x.k - 1) x.q).drop x.k = x.o.drop x.k := by rw [List.drop_set_of_lt (by omega)]
    rw [e1, e2]
    exact dv_step x.eq (by rw [← f4, ← f1]) (Nat.div_add_mod _ _), by have := x.le; omega⟩
theorem DvL.fin (x : DvL u v m n) (h : x.k = 0) (gv : Lg v) (hv : v.length = n) : VL x.o = VL u / VL v ∧ VL (x.U.take n) = VL u % VL v := by
  have h1 := x.eq
  have h2 := x.lt
  have h3 := x.hU
  rw [h, List.drop_zero, List.drop_zero, List.drop_zero] at h1
  rw [h, List.drop_zero] at h2
  have hp : 0 < VL v := Nat.lt_of_le_of_lt (Nat.zero_le _) h2
  have e1 : VL u / VL v = VL x.o := by
    rw [h1, Nat.add_comm, Nat.add_mul_div_right _ _ hp, Nat.div_eq_of_lt h2, Nat.zero_add]
  have e2 : VL u % VL v = VL x.U := by
    rw [h1, Nat.add_comm, Nat.add_mul_mod_self_right, Nat.mod_eq_of_lt h2]
  refine ⟨e1.symm, ?_⟩
  rw [e2]
  have h4 := L_lt gv
  rw [hv] at h4
  have h5 := L_take_drop x.U n (by omega)
  rcases Nat.eq_zero_or_pos (VL (x.U.drop n)) with h6 | h6
  · rw [h6, Nat.mul_zero, Nat.add_zero] at h5; exact h5.symm
  · have : 4294967296 ^ n * 1 ≤ 4294967296 ^ n * VL (x.U.drop n) := Nat.mul_le_mul_left _ h6
    omega
end
theorem top_lt {a b s n m L : Nat} (ha : a < 4294967296 ^ L) (hm : m + n = L + 1) (hn : 0 < n) (hs : 2 ^ s ≤ 2147483648) (hv : 2147483648 * 4294967296 ^ (n - 1) ≤ b) : VL ((limN (L + 1) (a * 2 ^ s)).drop m) < b := by
  have hP : 0 < 2 ^ s := Nat.pow_pos (by decide)
  have h1 : a * 2 ^ s < 4294967296 ^ L * 2 ^ s := Nat.mul_lt_mul_of_pos_right ha hP
  have h2 : 4294967296 ^ L * 2 ^ s ≤ 4294967296 ^ (L + 1) := by rw [Nat.pow_succ]; exact Nat.mul_le_mul_left _ (by omega)
  rw [← VL_div (limN_Lg _ _), V_limN (by omega), Nat.div_lt_iff_lt_mul (Nat.pow_pos (by decide))]
  refine Nat.lt_of_lt_of_le h1 ?_
  have h3 : 4294967296 ^ L = 4294967296 ^ (n - 1) * 4294967296 ^ m := by rw [← Nat.pow_add]; congr 1; omega
  rw [h3, Nat.mul_right_comm]
  refine Nat.mul_le_mul_right _ ?_
  rw [Nat.mul_comm]
  exact Nat.le_trans (Nat.mul_le_mul_right _ hs) hv
theorem sh_div (a b s : Nat) : a * 2 ^ s / (b * 2 ^ s) = a / b := Nat.mul_div_mul_right _ _ (Nat.pow_pos (by decide))
theorem sh_mod (a b s : Nat) : a * 2 ^ s % (b * 2 ^ s) / 2 ^ s = a % b := by rw [Nat.mul_mod_mul_right, Nat.mul_div_cancel _ (Nat.pow_pos (by decide))]
end Go.Proofs.YtnkjenaanjnihaaGreatDoor


/- Walks by the evaluator: naturals of the program: trim and left of a row of the call's own, one limb of a quotient. -/
namespace Go.Proofs.YtnkjenaanjnihaaGreatDoor
open Go.RowKit
variable {md me : Bool}
theorem FnG.mr {P : Program} {f : FuncId} {args : List D} {e : TypeId} {sz : Nat} {m m1 : MR} {out : D} {own' : List DOwn} (h : FnG P f args [.mrow e sz m] out own') (hr : m1.rows = m.rows) : FnG P f args [.mrow e sz m1] out own' := by
  unfold FnG at h ⊢
  have e1 : ows (enumO 0 [DOwn.mrow e sz m1]) = ows (enumO 0 [DOwn.mrow e sz m]) := by
    show [(0, Own.mrow e sz (D.pvss m1.rows))] = [(0, Own.mrow e sz (D.pvss m.rows))]
    rw [hr]
  rw [e1]
  exact h
structure TrmW (l : List Nat) where
  k : Nat
  le : k ≤ l.length
  eq : VL (l.take k) = VL l
def TrmW.next {l : List Nat} (x : TrmW l) (h : 0 < x.k) (h0 : l.getD (x.k - 1) 0 = 0) : TrmW l := ⟨x.k - 1, by have := x.le; omega, by
  have h1 := VL_take_one l (x.k - 1)
  rw [show x.k - 1 + 1 = x.k by omega, h0, Nat.mul_zero, Nat.add_zero, x.eq] at h1
  exact h1.symm⟩
theorem TrmW.fin {l : List Nat} (hg : Lg l) (x : TrmW l) (h : 0 < x.k → l.getD (x.k - 1) 0 ≠ 0) : x.k = (lim (VL l)).length := by
  have hle := x.le
  have hl : (l.take x.k).length = x.k := by rw [List.length_take]; omega
  have e : lim (VL (l.take x.k)) = l.take x.k := lim_V (hg.take _) fun hne => by
    have hp : 0 < x.k := by rw [← hl]; exact List.length_pos_iff.2 hne
    rw [List.getLast_eq_getElem, ← L_getD_lt (by omega), hl]
    have := h hp
    rw [List.getD_eq_getElem?_getD] at this ⊢
    rw [List.getElem?_take, if_pos (by omega)]
    exact this
  rw [x.eq] at e
  rw [e, hl]
theorem t_last' {k : Nat} (h : 0 < k) : ((k : Int) - 1).toNat = k - 1 := by omega
theorem natTrim_G (l : List Nat) (n : Nat) (hg : Lg l) (hn : n = l.length) (h0 : 0 < n) (hl : n ≤ 100000000) : FnG Tryz.prog 165 [.mo 0 n] [.mrow 48 1 (.map l uD 0)] (.mw 0 n 0 1 (lim (VL l)).length) [.mrow 48 1 (.map l uD 0)] := by
  have hm : n = (MR.map l uD 0).len := hn
  refine fnH_ev tabT Tryz.func165 rfl rfl rfl rfl rfl rfl rfl ?_
  intro w0 s0 mx
  refine ev_seq (ev_region tabT [] 100 rfl ?_)
  repeat (first | refine sat_same ?_ | refine sat_impA ?_ | refine sat_need (by first | exact ⟨hm, by rw [← hm]; omega⟩ | (intro hh; simp at hh; exact ⟨hm, by rw [← hm]; omega⟩) | (intro hh; simp at hh; exact ini (by omega) (by omega)) | (intro hh; simp at hh; exact ⟨by omega, by omega⟩) | exact ⟨by omega, by omega, by omega, by omega⟩ | first | exact trivial | omega | exact ini (by omega) (by omega) | (intro hh; simp at hh; exact ini (by omega) (by omega)) | (intro hh; simp at hh ⊢; omega) | (simp at *; omega) | (simp_all; done)) ?_)
  refine sat_done (exS_normal (ev_seq (ev_block ?_)))
  refine ev_loopK (ι := TrmW l) [] [] 150 (fun x => [(0, .mw 0 n 0 1 x.k)]) (fun x => [(0, .mrow 48 1 (.map l uD 0))]) (fun x => x.k) ⟨l.length, Nat.le_refl _, by rw [List.take_of_length_le (Nat.le_refl _)]⟩ ?_
  refine ⟨⟨⟨Sub.moMw h0 rfl rfl hn, le_t⟩, le_o, rfl, rfl⟩, fun x => ?_⟩
  have hk := x.le
  refine ev_seq ?_
  refine ev_seq (ev_region tabT [] 200 rfl ?_)
  repeat (first | refine sat_same ?_ | refine sat_impA ?_ | refine sat_need (by first | exact ⟨hm, by rw [← hm]; omega⟩ | (intro hh; simp at hh; exact ⟨hm, by rw [← hm]; omega⟩) | (intro hh; simp at hh; exact ini (by omega) (by omega)) | (intro hh; simp at hh; exact ⟨by omega, by omega⟩) | exact ⟨by omega, by omega, by omega, by omega⟩ | first | exact trivial | omega | exact ini (by omega) (by omega) | (intro hh; simp at hh; exact ini (by omega) (by omega)) | (intro hh; simp at hh ⊢; omega) | (simp at *; omega) | (simp_all; done)) ?_)
  refine sat_done (exS_normal (ev_if (fun c1 => ?_) (fun c1 => ?_)))
  ·
    refine ev_skip (exS_normal (ev_block ?_))
    refine ev_region tabT [] 300 rfl ?_
    repeat (first | refine sat_same ?_ | refine sat_impA ?_ | refine sat_need (by first | exact ⟨hm, by rw [← hm]; omega⟩ | (intro hh; simp at hh; exact ⟨hm, by rw [← hm]; omega⟩) | (intro hh; simp at hh; exact ini (by omega) (by omega)) | (intro hh; simp at hh; exact ⟨by omega, by omega⟩) | exact ⟨by omega, by omega, by omega, by omega⟩ | first | exact trivial | omega | exact ini (by omega) (by omega) | (intro hh; simp at hh; exact ini (by omega) (by omega)) | (intro hh; simp at hh ⊢; omega) | (simp at *; omega) | (simp_all; done)) ?_)
    refine sat_done (exBl_normal ?_)
    have hkp : 0 < x.k := by have := c1.1; omega
    have h9 := c1.2
    rw [t_last' hkp, Nat.zero_add] at h9
    exact exL_normal (x.next hkp (by omega)) ⟨⟨Sub.mw rfl (by simp) (by show _ = x.k - 1; omega), le_t⟩, le_o, rfl, rfl⟩ (by show x.k - 1 < x.k; omega)
  ·
    refine ev_exit (exS_exit (exL_exit (exBl_same (exS_normal ?_))))
    refine ev_seq (ev_region tabT [] 400 rfl ?_)
    repeat (first | refine sat_same ?_ | refine sat_impA ?_ | refine sat_need (by first | exact ⟨hm, by rw [← hm]; omega⟩ | (intro hh; simp at hh; exact ⟨hm, by rw [← hm]; omega⟩) | (intro hh; simp at hh; exact ini (by omega) (by omega)) | (intro hh; simp at hh; exact ⟨by omega, by omega⟩) | exact ⟨by omega, by omega, by omega, by omega⟩ | first | exact trivial | omega | exact ini (by omega) (by omega) | (intro hh; simp at hh; exact ini (by omega) (by omega)) | (intro hh; simp at hh ⊢; omega) | (simp at *; omega) | (simp_all; done)) ?_)
    refine sat_done (exS_normal (ev_ret ?_))
    have e := x.fin hg (fun hp h9 => by rw [t_last' hp, Nat.zero_add, h9] at c1; exact absurd c1 (by simp; omega))
    exact FinH.ret 1 rfl rfl (Sub.mw rfl rfl e) ⟨SubO.mr rfl, trivial⟩
theorem limN_is {l : List Nat} {n v : Nat} (hg : Lg l) (hl : l.length = n) (hv : VL l = v) : l = limN n v := by
  subst hl
  subst hv
  exact (limN_V hg).symm
theorem div_lt32 {n : Nat} (h : n < 32) : n / 32 = 0 := Nat.div_eq_of_lt h
theorem natLeft_G (a n : Nat) (ha : (lim a).length ≤ 100000) (hn : n < 32) : FnG Tryz.prog 174 [usD (lim a), .v (.int .i64 n)] [] (.mw 0 ((lim a).length + 1) 0 1 (lim (a * 2 ^ n)).length) [.mrow 48 1 (.map (limN ((lim a).length + 1) (a * 2 ^ n)) uD 0)] := by
  have htd := td32 n
  have hd0 := div_lt32 hn
  rw [hd0] at htd
  refine fnH_ev tabT Tryz.func174 rfl rfl rfl rfl rfl rfl rfl ?_
  intro w0 s0 mx
  refine ev_R tabT [] 100 ?_
  refine ev_seq (ev_region tabT [1018] 200 rfl ?_)
  repeat (first | refine sat_same ?_ | refine sat_impA ?_ | refine sat_need (by first | (rw [htd]; exact ini (by omega) (by omega)) | (simp only [htd]; exact ini (by omega) (by omega)) | exact ⟨by decide, by rw [htd]; exact ini (by omega) (by omega)⟩ | (simp only [htd]; refine ⟨?_, ?_⟩ <;> omega) | (simp only [htd]; refine ⟨?_, ?_, ?_⟩ <;> omega) | first | exact trivial | omega | exact ini (by omega) (by omega) | (intro hh; simp at hh; exact ini (by omega) (by omega)) | (intro hh; simp at hh ⊢; omega) | (simp at *; omega) | (simp_all; done)) ?_)
  refine sat_done (exS_normal ?_)
  refine ev_tell [0, 1] [] 210 [(5, .mo 108 0)] [(108, .mrow 48 1 (.map [] uD 0))] ?_
  refine ⟨⟨⟨Sub.mo (by rw [htd]; rfl), le_t⟩, ⟨SubO.mr (by rw [htd]; rfl), le_o⟩, rfl, rfl⟩, ?_⟩
  refine ev_R tabT [] 300 ?_
  refine ev_seq (ev_R tabT [] 400 ?_)
  refine ev_block ?_
  refine ev_loopK (ι := Lf (lim a) n) [1, 19, 20] [] 450 (fun x => [(21, .v (.int .i64 (x.k : Nat))), (6, .v (.int .u32 (x.c : Nat))), (5, .mo 108 x.o.length)]) (fun x => [(108, .mrow 48 1 (.map x.o uD 0))]) (fun x => (lim a).length - x.k) (Lf.start _ _) ?_
  refine ⟨⟨⟨Sub.int rfl, Sub.int rfl, Sub.mo (by show 0 = (List.replicate (n / 32) 0).length; rw [hd0]; rfl), le_t⟩, ⟨SubO.mr (by show _ = (List.replicate (n / 32) 0).map uD; rw [hd0]; rfl), le_o⟩, rfl, rfl⟩, fun x => ?_⟩
  have hk := x.le
  have hlo := x.lo
  have hc1 := x.hc
  have hP := P_le n
  have ew := lf_w x (lim_Dg a)
  have eo := lf_o x
  have ec := lf_c x (lim_Dg a)
  refine ev_R tabT [] 500 ?_
  refine ev_seq (ev_if (fun c4 => ?_) (fun c4 => ?_))
  ·
    refine ev_skip (exS_normal (ev_seq (ev_block (ev_R tabT [] 600 ?_))))
    refine ev_seq (ev_region tabT [] 700 rfl ?_)
    repeat (first | refine sat_same ?_ | refine sat_impA ?_ | refine sat_need (by first | (rw [Int.tmod_eq_emod_of_nonneg (by omega)]; omega) | first | exact trivial | omega | exact ini (by omega) (by omega) | (intro hh; simp at hh; exact ini (by omega) (by omega)) | (intro hh; simp at hh ⊢; omega) | (simp at *; omega) | (simp_all; done)) ?_)
    refine sat_done (exS_normal ?_)
    refine ev_seq (ev_region tabT [] 800 rfl ?_)
    repeat (first | refine sat_same ?_ | refine sat_impA ?_ | refine sat_need (by first | rfl | (rw [x.lo]; omega) | first | exact trivial | omega | exact ini (by omega) (by omega) | (intro hh; simp at hh; exact ini (by omega) (by omega)) | (intro hh; simp at hh ⊢; omega) | (simp at *; omega) | (simp_all; done)) ?_)
    refine sat_done (exS_normal (ev_Q tabT [] 900 ?_))
    refine exBl_normal (exS_normal (ev_Q tabT [] 1000 ?_))
    exact exL_normal (x.next (lim_Dg a) (by omega)) ⟨⟨Sub.int (by show (x.k : Int) + 1 = ((x.k + 1 : Nat) : Int); omega), Sub.int (by (try simp only [Int.toNat_natCast]); rw [ew]; exact ec), Sub.mo (by show x.o.length + _ = (x.o ++ [_]).length; simp), le_t⟩, ⟨SubO.mr (uD_snoc (by (try simp only [Int.toNat_natCast]); rw [ew]; exact eo)), le_o⟩, rfl, rfl⟩ (by show (lim a).length - (x.k + 1) < (lim a).length - x.k; omega)
  ·
    refine ev_exit (exS_exit (exL_exit (exBl_same (exS_normal ?_))))
    refine ev_seq (ev_region tabT [1045] 1100 rfl ?_)
    repeat (first | refine sat_same ?_ | refine sat_impA ?_ | refine sat_need (by first | rfl | (rw [x.lo]; omega) | first | exact trivial | omega | exact ini (by omega) (by omega) | (intro hh; simp at hh; exact ini (by omega) (by omega)) | (intro hh; simp at hh ⊢; omega) | (simp at *; omega) | (simp_all; done)) ?_)
    refine sat_fnH _ _ ((natTrim_G (x.o ++ [x.c]) _ (x.lg.snoc (by omega)) (by simp) (by simp) (by rw [x.lo]; simp; omega)).mr (uD_snoc rfl)) rfl ?_
    repeat (first | refine sat_same ?_ | refine sat_impA ?_ | refine sat_need (by first | rfl | (rw [x.lo]; omega) | first | exact trivial | omega | exact ini (by omega) (by omega) | (intro hh; simp at hh; exact ini (by omega) (by omega)) | (intro hh; simp at hh ⊢; omega) | (simp at *; omega) | (simp_all; done)) ?_)
    refine sat_done (exS_normal (ev_ret ?_))
    obtain ⟨e1, e2, e3⟩ := x.fin (by omega)
    rw [L_dig] at e1
    rw [hd0, Nat.zero_add] at e3
    exact FinH.ret 108 rfl rfl (Sub.mw (by rw [← e3]; simp) rfl (by rw [e1])) ⟨SubO.mr (by show List.map uD _ = List.map uD _; rw [limN_is e2 e3 e1]), trivial⟩
def bl8 (x : Nat) : Nat := if x < 1 then 0 else if x < 2 then 1 else if x < 4 then 2 else if x < 8 then 3 else if x < 16 then 4 else if x < 32 then 5 else if x < 64 then 6 else if x < 128 then 7 else 8
def blN (x : Nat) : Nat := if 65536 ≤ x then (if 256 ≤ x / 65536 then 24 + bl8 (x / 65536 / 256) else 16 + bl8 (x / 65536)) else if 256 ≤ x then 8 + bl8 (x / 256) else bl8 x
def chk8 (p : ByteArray) : Bool := Nat.blt 255 p.size && (List.range 256).all fun i => Nat.beq (bAt p i) (bl8 i)
theorem chk8_at {p : ByteArray} {i : Nat} (h : chk8 p = true) (hi : i < 256) : bAt p i = bl8 i := by
  unfold chk8 at h
  rw [Bool.and_eq_true, List.all_eq_true] at h
  exact Nat.eq_of_beq_eq_true (h.2 i (List.mem_range.2 hi))
theorem chk8_size {p : ByteArray} {i : Nat} (h : chk8 p = true) (hi : i < 256) : i < p.size := by
  unfold chk8 at h
  rw [Bool.and_eq_true] at h
  have := Nat.le_of_ble_eq_true h.1
  omega
theorem bl8_le (x : Nat) : bl8 x ≤ 8 := by unfold bl8; (repeat' split) <;> omega
theorem blN_le (x : Nat) : blN x ≤ 32 := by
  unfold blN
  have h1 := bl8_le (x / 65536 / 256)
  have h2 := bl8_le (x / 65536)
  have h3 := bl8_le (x / 256)
  have h4 := bl8_le x
  split
  · split <;> omega
  · split <;> omega
theorem bl8_pow {x : Nat} (h0 : 0 < x) (h : x < 256) : 2 ^ bl8 x ≤ 2 * x ∧ x < 2 ^ bl8 x := by
  unfold bl8
  rw [if_neg (by omega)]
  by_cases h1 : x < 2
  · rw [if_pos h1]; omega
  rw [if_neg h1]
  by_cases h2 : x < 4
  · rw [if_pos h2]; omega
  rw [if_neg h2]
  by_cases h3 : x < 8
  · rw [if_pos h3]; omega
  rw [if_neg h3]
  by_cases h4 : x < 16
  · rw [if_pos h4]; omega
  rw [if_neg h4]
  by_cases h5 : x < 32
  · rw [if_pos h5]; omega
  rw [if_neg h5]
  by_cases h6 : x < 64
  · rw [if_pos h6]; omega
  rw [if_neg h6]
  by_cases h7 : x < 128
  · rw [if_pos h7]; omega
  rw [if_neg h7]; omega
theorem blN_pow {x : Nat} (h0 : 0 < x) (h : x < 4294967296) : 2 ^ blN x ≤ 2 * x ∧ x < 2 ^ blN x := by
  unfold blN
  by_cases h1 : 65536 ≤ x
  · rw [if_pos h1]
    by_cases h2 : 256 ≤ x / 65536
    · rw [if_pos h2]
      have h3 := bl8_pow (x := x / 65536 / 256) (by omega) (by omega)
      rw [Nat.pow_add, show 2 ^ 24 = 16777216 by decide]
      generalize 2 ^ bl8 (x / 65536 / 256) = B at *
      omega
    · rw [if_neg h2]
      have h3 := bl8_pow (x := x / 65536) (by omega) (by omega)
      rw [Nat.pow_add, show 2 ^ 16 = 65536 by decide]
      generalize 2 ^ bl8 (x / 65536) = B at *
      omega
  · rw [if_neg h1]
    by_cases h2 : 256 ≤ x
    · rw [if_pos h2]
      have h3 := bl8_pow (x := x / 256) (by omega) (by omega)
      rw [Nat.pow_add, show 2 ^ 8 = 256 by decide]
      generalize 2 ^ bl8 (x / 256) = B at *
      omega
    · rw [if_neg h2]
      exact bl8_pow h0 (by omega)
theorem w8n {n : Nat} (h : n < 256) : IntKind.u8.wrap (n : Int) = (n : Int) := by
  simp only [IntKind.wrap, IntKind.signed, IntKind.bits, Bool.false_and, Bool.false_eq_true, if_false]
  omega
theorem sh16 (x : Nat) : Int.fdiv (x : Int) (2 ^ min (Int.toNat 16) IntKind.u32.bits) = ((x / 65536 : Nat) : Int) := fdiv_pow (by decide)
theorem sh8 (x : Nat) : Int.fdiv (x : Int) (2 ^ min (Int.toNat 8) IntKind.u32.bits) = ((x / 256 : Nat) : Int) := fdiv_pow (by decide)
theorem bAt8 {x : Nat} {p : ByteArray} (h : x < 256) (hc : chk8 p = true) : bAt p (IntKind.u8.wrap (x : Int)).toNat = bl8 x := by rw [w8n h, Int.toNat_natCast, chk8_at hc h]
theorem Len32_ok (x : Nat) (hx : x < 4294967296) : Fn Tryz.prog 183 [.v (.int .u32 x)] (.v (.int .i64 (blN x : Nat))) := by
  have h16 := sh16 x
  have h8 := sh8 x
  have h168 := sh8 (x / 65536)
  have hb1 := bl8_le (x / 65536 / 256)
  have hb2 := bl8_le (x / 65536)
  have hb3 := bl8_le (x / 256)
  have hb4 := bl8_le x
  refine fn_ev tabT Tryz.func183 rfl rfl rfl rfl rfl rfl ?_
  intro w0 s0 mx
  refine ev_seq (ev_region tabT [] 100 rfl ?_)
  repeat (first | refine sat_same ?_ | refine sat_impA ?_ | refine sat_need (by first | exact trivial | exact ⟨by (try simp only [h16, h8, h168]); rw [w8n (by omega)]; omega, chk8_size (by decide +kernel) (by (try simp only [h16, h8, h168]); rw [w8n (by omega)]; omega)⟩ | ((try simp only [h16, h8, h168]); rw [bAt8 (by omega) (by decide +kernel), InI.wrap (ini (by omega) (by omega))]; exact ini (by omega) (by omega)) | omega | exact ini (by omega) (by omega)) ?_)
  refine sat_done (exS_normal (ev_seq ?_))
  refine ev_seq (ev_region tabT [] 200 rfl ?_)
  repeat (first | refine sat_same ?_ | refine sat_impA ?_ | refine sat_need (by first | exact trivial | exact ⟨by (try simp only [h16, h8, h168]); rw [w8n (by omega)]; omega, chk8_size (by decide +kernel) (by (try simp only [h16, h8, h168]); rw [w8n (by omega)]; omega)⟩ | ((try simp only [h16, h8, h168]); rw [bAt8 (by omega) (by decide +kernel), InI.wrap (ini (by omega) (by omega))]; exact ini (by omega) (by omega)) | omega | exact ini (by omega) (by omega)) ?_)
  refine sat_done (exS_normal (ev_if (fun c1 => ?_) (fun c1 => ?_)))
  ·
    refine ev_seq (ev_region tabT [] 300 rfl ?_)
    repeat (first | refine sat_same ?_ | refine sat_impA ?_ | refine sat_need (by first | exact trivial | exact ⟨by (try simp only [h16, h8, h168]); rw [w8n (by omega)]; omega, chk8_size (by decide +kernel) (by (try simp only [h16, h8, h168]); rw [w8n (by omega)]; omega)⟩ | ((try simp only [h16, h8, h168]); rw [bAt8 (by omega) (by decide +kernel), InI.wrap (ini (by omega) (by omega))]; exact ini (by omega) (by omega)) | omega | exact ini (by omega) (by omega)) ?_)
    refine sat_done (exS_normal ?_)
    refine ev_tell [] [] 310 [(0, .v (.int .u32 (x / 65536 : Nat)))] [] ?_
    refine ⟨⟨⟨Sub.int h16, le_t⟩, le_o, rfl, rfl⟩, ?_⟩
    refine ev_region tabT [] 400 rfl ?_
    repeat (first | refine sat_same ?_ | refine sat_impA ?_ | refine sat_need (by first | exact trivial | exact ⟨by (try simp only [h16, h8, h168]); rw [w8n (by omega)]; omega, chk8_size (by decide +kernel) (by (try simp only [h16, h8, h168]); rw [w8n (by omega)]; omega)⟩ | ((try simp only [h16, h8, h168]); rw [bAt8 (by omega) (by decide +kernel), InI.wrap (ini (by omega) (by omega))]; exact ini (by omega) (by omega)) | omega | exact ini (by omega) (by omega)) ?_)
    refine sat_done (exS_normal (ev_seq ?_))
    refine ev_seq (ev_region tabT [] 500 rfl ?_)
    repeat (first | refine sat_same ?_ | refine sat_impA ?_ | refine sat_need (by first | exact trivial | exact ⟨by (try simp only [h16, h8, h168]); rw [w8n (by omega)]; omega, chk8_size (by decide +kernel) (by (try simp only [h16, h8, h168]); rw [w8n (by omega)]; omega)⟩ | ((try simp only [h16, h8, h168]); rw [bAt8 (by omega) (by decide +kernel), InI.wrap (ini (by omega) (by omega))]; exact ini (by omega) (by omega)) | omega | exact ini (by omega) (by omega)) ?_)
    refine sat_done (exS_normal (ev_if (fun c4 => ?_) (fun c4 => ?_)))
    ·
      refine ev_seq (ev_region tabT [] 600 rfl ?_)
      repeat (first | refine sat_same ?_ | refine sat_impA ?_ | refine sat_need (by first | exact trivial | exact ⟨by (try simp only [h16, h8, h168]); rw [w8n (by omega)]; omega, chk8_size (by decide +kernel) (by (try simp only [h16, h8, h168]); rw [w8n (by omega)]; omega)⟩ | ((try simp only [h16, h8, h168]); rw [bAt8 (by omega) (by decide +kernel), InI.wrap (ini (by omega) (by omega))]; exact ini (by omega) (by omega)) | omega | exact ini (by omega) (by omega)) ?_)
      refine sat_done (exS_normal ?_)
      refine ev_region tabT [] 700 rfl ?_
      repeat (first | refine sat_same ?_ | refine sat_impA ?_ | refine sat_need (by first | exact trivial | exact ⟨by (try simp only [h16, h8, h168]); rw [w8n (by omega)]; omega, chk8_size (by decide +kernel) (by (try simp only [h16, h8, h168]); rw [w8n (by omega)]; omega)⟩ | ((try simp only [h16, h8, h168]); rw [bAt8 (by omega) (by decide +kernel), InI.wrap (ini (by omega) (by omega))]; exact ini (by omega) (by omega)) | omega | exact ini (by omega) (by omega)) ?_)
      refine sat_done (exS_normal ?_)
      refine ev_seq (ev_region tabT [] 800 rfl ?_)
      repeat (first | refine sat_same ?_ | refine sat_impA ?_ | refine sat_need (by first | exact trivial | exact ⟨by (try simp only [h16, h8, h168]); rw [w8n (by omega)]; omega, chk8_size (by decide +kernel) (by (try simp only [h16, h8, h168]); rw [w8n (by omega)]; omega)⟩ | ((try simp only [h16, h8, h168]); rw [bAt8 (by omega) (by decide +kernel), InI.wrap (ini (by omega) (by omega))]; exact ini (by omega) (by omega)) | omega | exact ini (by omega) (by omega)) ?_)
      refine sat_done (exS_normal (ev_ret ?_))
      exact FinV.ret rfl (SubP.int (by (try simp only [h16, h8, h168] at *); rw [bAt8 (by omega) (by decide +kernel), InI.wrap (ini (by omega) (by omega))]; unfold blN; (repeat (first | rw [if_pos (by omega)] | rw [if_neg (by omega)])); omega))
    ·
      refine ev_skip (exS_normal ?_)
      refine ev_seq (ev_region tabT [] 800 rfl ?_)
      repeat (first | refine sat_same ?_ | refine sat_impA ?_ | refine sat_need (by first | exact trivial | exact ⟨by (try simp only [h16, h8, h168]); rw [w8n (by omega)]; omega, chk8_size (by decide +kernel) (by (try simp only [h16, h8, h168]); rw [w8n (by omega)]; omega)⟩ | ((try simp only [h16, h8, h168]); rw [bAt8 (by omega) (by decide +kernel), InI.wrap (ini (by omega) (by omega))]; exact ini (by omega) (by omega)) | omega | exact ini (by omega) (by omega)) ?_)
      refine sat_done (exS_normal (ev_ret ?_))
      exact FinV.ret rfl (SubP.int (by (try simp only [h16, h8, h168] at *); rw [bAt8 (by omega) (by decide +kernel), InI.wrap (ini (by omega) (by omega))]; unfold blN; (repeat (first | rw [if_pos (by omega)] | rw [if_neg (by omega)])); omega))
  ·
    refine ev_skip (exS_normal (ev_seq ?_))
    refine ev_seq (ev_region tabT [] 500 rfl ?_)
    repeat (first | refine sat_same ?_ | refine sat_impA ?_ | refine sat_need (by first | exact trivial | exact ⟨by (try simp only [h16, h8, h168]); rw [w8n (by omega)]; omega, chk8_size (by decide +kernel) (by (try simp only [h16, h8, h168]); rw [w8n (by omega)]; omega)⟩ | ((try simp only [h16, h8, h168]); rw [bAt8 (by omega) (by decide +kernel), InI.wrap (ini (by omega) (by omega))]; exact ini (by omega) (by omega)) | omega | exact ini (by omega) (by omega)) ?_)
    refine sat_done (exS_normal (ev_if (fun c4 => ?_) (fun c4 => ?_)))
    ·
      refine ev_seq (ev_region tabT [] 600 rfl ?_)
      repeat (first | refine sat_same ?_ | refine sat_impA ?_ | refine sat_need (by first | exact trivial | exact ⟨by (try simp only [h16, h8, h168]); rw [w8n (by omega)]; omega, chk8_size (by decide +kernel) (by (try simp only [h16, h8, h168]); rw [w8n (by omega)]; omega)⟩ | ((try simp only [h16, h8, h168]); rw [bAt8 (by omega) (by decide +kernel), InI.wrap (ini (by omega) (by omega))]; exact ini (by omega) (by omega)) | omega | exact ini (by omega) (by omega)) ?_)
      refine sat_done (exS_normal ?_)
      refine ev_region tabT [] 700 rfl ?_
      repeat (first | refine sat_same ?_ | refine sat_impA ?_ | refine sat_need (by first | exact trivial | exact ⟨by (try simp only [h16, h8, h168]); rw [w8n (by omega)]; omega, chk8_size (by decide +kernel) (by (try simp only [h16, h8, h168]); rw [w8n (by omega)]; omega)⟩ | ((try simp only [h16, h8, h168]); rw [bAt8 (by omega) (by decide +kernel), InI.wrap (ini (by omega) (by omega))]; exact ini (by omega) (by omega)) | omega | exact ini (by omega) (by omega)) ?_)
      refine sat_done (exS_normal ?_)
      refine ev_seq (ev_region tabT [] 800 rfl ?_)
      repeat (first | refine sat_same ?_ | refine sat_impA ?_ | refine sat_need (by first | exact trivial | exact ⟨by (try simp only [h16, h8, h168]); rw [w8n (by omega)]; omega, chk8_size (by decide +kernel) (by (try simp only [h16, h8, h168]); rw [w8n (by omega)]; omega)⟩ | ((try simp only [h16, h8, h168]); rw [bAt8 (by omega) (by decide +kernel), InI.wrap (ini (by omega) (by omega))]; exact ini (by omega) (by omega)) | omega | exact ini (by omega) (by omega)) ?_)
      refine sat_done (exS_normal (ev_ret ?_))
      exact FinV.ret rfl (SubP.int (by (try simp only [h16, h8, h168] at *); rw [bAt8 (by omega) (by decide +kernel), InI.wrap (ini (by omega) (by omega))]; unfold blN; (repeat (first | rw [if_pos (by omega)] | rw [if_neg (by omega)])); omega))
    ·
      refine ev_skip (exS_normal ?_)
      refine ev_seq (ev_region tabT [] 800 rfl ?_)
      repeat (first | refine sat_same ?_ | refine sat_impA ?_ | refine sat_need (by first | exact trivial | exact ⟨by (try simp only [h16, h8, h168]); rw [w8n (by omega)]; omega, chk8_size (by decide +kernel) (by (try simp only [h16, h8, h168]); rw [w8n (by omega)]; omega)⟩ | ((try simp only [h16, h8, h168]); rw [bAt8 (by omega) (by decide +kernel), InI.wrap (ini (by omega) (by omega))]; exact ini (by omega) (by omega)) | omega | exact ini (by omega) (by omega)) ?_)
      refine sat_done (exS_normal (ev_ret ?_))
      exact FinV.ret rfl (SubP.int (by (try simp only [h16, h8, h168] at *); rw [bAt8 (by omega) (by decide +kernel), InI.wrap (ini (by omega) (by omega))]; unfold blN; (repeat (first | rw [if_pos (by omega)] | rw [if_neg (by omega)])); omega))
theorem Lz32_ok (x : Nat) (hx : x < 4294967296) : Fn Tryz.prog 181 [.v (.int .u32 x)] (.v (.int .i64 (32 - blN x : Nat))) := by
  have hb := blN_le x
  refine fn_ev tabT Tryz.func181 rfl rfl rfl rfl rfl rfl ?_
  intro w0 s0 mx
  refine ev_R tabT [] 100 ?_
  refine ev_seq (ev_region tabT [] 200 rfl ?_)
  refine sat_go ?_
  refine sat_fn _ (Len32_ok x hx) rfl ?_
  refine sat_go ?_
  refine sat_done (exS_normal (ev_ret ?_))
  exact FinV.ret rfl (SubP.int (by omega))
theorem add32_ok {x y b : Int} (hx : I32 x) (hy : I32 y) (hb : 0 ≤ b ∧ b ≤ 1) : IntKind.u64.wrap (IntKind.u64.wrap (IntKind.u64.wrap x + IntKind.u64.wrap y) + IntKind.u64.wrap b) = ((b.toNat + x.toNat + y.toNat : Nat) : Int) := by
  obtain ⟨h1, h2⟩ := hx
  obtain ⟨h3, h4⟩ := hy
  simp only [IntKind.wrap, IntKind.signed, IntKind.bits, Bool.false_and, Bool.false_eq_true, if_false]
  omega
theorem Add32_ok (x y b : Int) (hx : I32 x) (hy : I32 y) (hb : 0 ≤ b ∧ b ≤ 1) : Fn Tryz.prog 184 [.v (.int .u32 x), .v (.int .u32 y), .v (.int .u32 b)] (.tup [.v (.int .u32 ((b.toNat + x.toNat + y.toNat) % 4294967296 : Nat)), .v (.int .u32 ((b.toNat + x.toNat + y.toNat) / 4294967296 : Nat))]) := by
  refine fn_ev tabT Tryz.func184 rfl rfl rfl rfl rfl rfl ?_
  intro w0 s0 mx
  refine ev_R tabT [] 100 ?_
  refine ev_R tabT [] 200 ?_
  refine ev_R tabT [] 300 ?_
  refine ev_R tabT [] 400 ?_
  refine ev_ret ?_
  have e := add32_ok hx hy hb
  have h2 := hx.2
  have h3 := hy.2
  exact FinV.ret rfl (SubP.tup ⟨SubP.int (lo32 e), SubP.int (by rw [hi32 e, w32n (by omega)]), trivial⟩)
end Go.Proofs.YtnkjenaanjnihaaGreatDoor
