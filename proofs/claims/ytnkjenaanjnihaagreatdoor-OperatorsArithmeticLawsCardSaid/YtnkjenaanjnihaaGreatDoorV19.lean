/- Part 19 of the proof. -/
import Derived.Test.YtnkjenaanjnihaaGreatDoorV18
import Derived.Test.YtnkjenaanjnihaaGreatDoorV15


/- Walks by the evaluator: operators.Binary of numbers. -/
namespace Go.Proofs.YtnkjenaanjnihaaGreatDoor
open Go.RowKit
variable {md me : Bool}
def stsP (l : List St) : D := .sl false 18 l stD st0
def plP (s : St) : D := .agg (stsP [] :: stD s)
def hpQ (m md : Bool) (h : List Ob) : D := .pt m [.sl md 10 h obD ob0]
theorem bszQ (a : Array UInt8) : (⟨a⟩ : ByteArray).size = a.size := rfl
theorem cf_no {h : List Ob} {v : Vl} (h0 : 0 ≤ v.k ∧ v.k < 6) : Cf h v := ⟨by omega, fun e => by omega, fun e => by omega, fun e => by omega⟩
theorem nm_k {v : Vl} (p : Qr.Nm v) : 0 ≤ v.k ∧ v.k < 6 := by have := p.k; omega
theorem vl0_k : 0 ≤ vl0.k ∧ vl0.k < 6 := by decide
def bnT (h : List Ob) (a b : Vl) : ByteArray := ((((((⟨#[99, 97, 110, 110, 111, 116, 32, 97, 112, 112, 108, 121, 32, 39]⟩ ++ ⟨#[42]⟩) ++ ⟨#[39, 32, 116, 111, 32, 39]⟩) ++ (obAt h (clA h a)).name) ++ ⟨#[39, 32, 97, 110, 100, 32, 39]⟩) ++ (obAt h (clA h b)).name) ++ ⟨#[39]⟩)
theorem lap_u (l : List (List St)) (hl : ∀ x ∈ l, x = []) (k : Nat) : l.getD k [] = [] := by
  rw [List.getD_eq_getElem?_getD]
  by_cases h : k < l.length
  · rw [List.getElem?_eq_getElem h]
    exact hl _ (List.getElem_mem h)
  · rw [List.getElem?_eq_none (by omega)]; rfl
def lap2 : List (List St) := [[], []]
theorem lap2_at (k : Nat) : lap2.getD k [] = [] := lap_u _ (by intro x hx; simp [lap2] at hx; exact hx) k
def laysGrowSt_ren : Go.Shelf.Ren := ⟨fun | 4 => 61 | n => n, fun | 22 => 57 | 25 => 59 | 3 => 3 | 4 => 4 | 9 => 9 | 20 => 20 | 0 => 0 | n => n, fun | n => n⟩
theorem laysGrowSt : Go.Proofs.Lays8.n4 Tryz.prog laysGrowSt_ren := {
  mixed := by kernel_rfl
  f4 := ⟨Tryz.f61.name, by decide, Tryz.func61.trans (congrArg some (by kernel_rfl))⟩
  t0 := Tryz.underlying0
  a0 := Tryz.isAgg0
  z0 := Tryz.sizeOf0
  v0 := Tryz.zeroValue0
  t3 := Tryz.underlying3
  a3 := Tryz.isAgg3
  z3 := Tryz.sizeOf3
  v3 := Tryz.zeroValue3
  t4 := Tryz.underlying4
  a4 := Tryz.isAgg4
  z4 := Tryz.sizeOf4
  v4 := Tryz.zeroValue4
  t9 := Tryz.underlying9
  a9 := Tryz.isAgg9
  z9 := Tryz.sizeOf9
  v9 := Tryz.zeroValue9
  t20 := Tryz.underlying20
  a20 := Tryz.isAgg20
  z20 := Tryz.sizeOf20
  v20 := Tryz.zeroValue20
  t22 := Tryz.underlying57
  a22 := Tryz.isAgg57
  z22 := Tryz.sizeOf57
  v22 := Tryz.zeroValue57 }
theorem GrowSt_ok : FnO Tryz.prog 61 [.v (.slice none 0 0), .v (.int .i64 (0 : Nat))] 59 18 [] :=
  grow_O ⟨_, Tryz.func61, rfl, rfl⟩ 0 (fun _ w => Any8.slices_Grow_room laysGrowSt none 0 0 0 w (by omega) (by omega) (by omega) (by omega)) fun h _ => absurd h (by decide)
theorem attObj0_ok (h : List Ob) (v : Vl) (hv : 0 ≤ v.k ∧ v.k < 6) : Fn Tryz.prog 76 [hpD md h, .agg (vlD v)] (.agg (obD ob0)) := by
  refine fn_ev tabT Tryz.func76 rfl rfl rfl rfl rfl rfl ?_
  intro w0 s0 mx
  refine ev_R tabT [] 100 ?_
  refine ev_seq (ev_R tabT [] 200 ?_)
  refine ev_if (fun c1 => ?_) (fun c1 => ?_)
  ·
    refine ev_R tabT [] 300 ?_
    refine ev_ret (exS_ret ?_)
    exact FinV.ret rfl (SubP.agg (by repeat (first | exact trivial | exact SubP.refl _ | exact SubP.nilSl rfl | refine ⟨?_, ?_⟩)))
  ·
    exact absurd c1 (by omega)
theorem opObj0_ok (h : List Ob) (v : Vl) (hv : 0 ≤ v.k ∧ v.k < 6) : Fn Tryz.prog 65 [hpD md h, .agg (vlD v)] (.agg (obD ob0)) := by
  refine fn_ev tabT Tryz.func65 rfl rfl rfl rfl rfl rfl ?_
  intro w0 s0 mx
  refine ev_R tabT [] 100 ?_
  refine ev_seq (ev_R tabT [] 200 ?_)
  refine ev_if (fun c1 => ?_) (fun c1 => ?_)
  ·
    refine ev_R tabT [] 300 ?_
    refine ev_ret (exS_ret ?_)
    exact FinV.ret rfl (SubP.agg (by repeat (first | exact trivial | exact SubP.refl _ | exact SubP.nilSl rfl | refine ⟨?_, ?_⟩)))
  ·
    exact absurd c1 (by omega)
theorem Special0_ok (h : List Ob) (v : Vl) (s : ByteArray) (hv : 0 ≤ v.k ∧ v.k < 6) : Fn Tryz.prog 57 [hpD md h, .agg (vlD v), .v (.string s)] (.tup [.agg (vlD vl0), vsD [], .v (.bool false)]) := by
  refine fn_ev tabT Tryz.func57 rfl rfl rfl rfl rfl rfl ?_
  intro w0 s0 mx
  refine ev_R tabT [] 100 ?_
  refine ev_seq ?_
  refine ev_seq (ev_region tabT [] 200 rfl ?_)
  refine sat_go ?_
  refine sat_fn _ (attObj0_ok h v hv) rfl ?_
  refine sat_go ?_
  refine sat_done (exS_normal (ev_if (fun c1 => ?_) (fun c1 => ?_)))
  ·
    refine ev_R tabT [] 300 ?_
    refine ev_ret (exS_ret ?_)
    exact FinV.ret rfl (SubP.tup (by repeat (first | exact trivial | exact SubP.refl _ | exact SubP.nilSl rfl | refine SubP.agg ?_ | refine ⟨?_, ?_⟩)))
  ·
    exact absurd c1 (by decide)
theorem opAtt0_ok (h : List Ob) (v : Vl) (s : ByteArray) (l : List Vl) (hv : 0 ≤ v.k ∧ v.k < 6) : Fn Tryz.prog 39 [hpD md h, .agg (vlD v), .v (.string s), vsD l] (stsP []) := by
  refine fn_ev tabT Tryz.func39 rfl rfl rfl rfl rfl rfl ?_
  intro w0 s0 mx
  refine ev_R tabT [] 100 ?_
  refine ev_seq (ev_region tabT [] 200 rfl ?_)
  refine sat_go ?_
  refine sat_fn _ (Special0_ok h v s hv) rfl ?_
  refine sat_go ?_
  refine sat_done (exS_normal (ev_seq (ev_R tabT [] 300 ?_)))
  refine ev_if (fun c2 => ?_) (fun c2 => ?_)
  ·
    refine ev_R tabT [] 400 ?_
    refine ev_ret (exS_ret ?_)
    exact FinV.ret rfl (SubP.nilSl rfl)
  ·
    exact absurd c2 (by decide)
theorem opInst0_ok (h : List Ob) (v : Vl) (hv : 0 ≤ v.k ∧ v.k < 6) : Fn Tryz.prog 43 [hpD md h, .agg (vlD v)] (.v (.bool false)) := by
  refine fn_ev tabT Tryz.func43 rfl rfl rfl rfl rfl rfl ?_
  intro w0 s0 mx
  refine ev_R tabT [] 100 ?_
  refine ev_seq (ev_region tabT [] 200 rfl ?_)
  refine sat_go ?_
  refine sat_fn _ (opObj0_ok h v hv) rfl ?_
  refine sat_go ?_
  refine sat_done (exS_normal (ev_ret ?_))
  exact FinV.ret rfl (SubP.bool rfl)
theorem opRefl0_ok (h : List Ob) (a b : Vl) (s : ByteArray) (hv : 0 ≤ a.k ∧ a.k < 6) (hw : 0 ≤ b.k ∧ b.k < 6) : Fn Tryz.prog 42 [hpD md h, .agg (vlD a), .agg (vlD b), .v (.string s)] (.v (.bool false)) := by
  refine fn_ev tabT Tryz.func42 rfl rfl rfl rfl rfl rfl ?_
  intro w0 s0 mx
  refine ev_R tabT [] 100 ?_
  refine ev_seq ?_
  refine ev_seq (ev_region tabT [] 200 rfl ?_)
  refine sat_go ?_
  refine sat_fn _ (opInst0_ok h a hv) rfl ?_
  refine sat_go ?_
  refine sat_fnG _ (fun hg7 => opInst0_ok h b hw) rfl ?_
  refine sat_go ?_
  refine sat_done (exS_normal (ev_if (fun c1 => ?_) (fun c1 => ?_)))
  ·
    refine ev_R tabT [] 300 ?_
    refine ev_ret (exS_ret ?_)
    exact FinV.ret rfl (SubP.bool rfl)
  ·
    simp at c1
theorem binaries_ok  : Fn Tryz.prog 38 [] (.agg [.v (.string ⟨#[43]⟩), .v (.string ⟨#[97, 100, 100]⟩), .v (.string ⟨#[45]⟩), .v (.string ⟨#[115, 117, 98]⟩), .v (.string ⟨#[42]⟩), .v (.string ⟨#[109, 117, 108]⟩), .v (.string ⟨#[47]⟩), .v (.string ⟨#[100, 105, 118]⟩), .v (.string ⟨#[47, 47]⟩), .v (.string ⟨#[102, 108, 111, 111, 114]⟩), .v (.string ⟨#[37]⟩), .v (.string ⟨#[109, 111, 100]⟩), .v (.string ⟨#[42, 42]⟩), .v (.string ⟨#[112, 111, 119]⟩), .v (.string ⟨#[60, 60]⟩), .v (.string ⟨#[108, 101, 102, 116]⟩), .v (.string ⟨#[62, 62]⟩), .v (.string ⟨#[114, 105, 103, 104, 116]⟩), .v (.string ⟨#[38]⟩), .v (.string ⟨#[97, 110, 100]⟩), .v (.string ⟨#[124]⟩), .v (.string ⟨#[111, 114]⟩), .v (.string ⟨#[94]⟩), .v (.string ⟨#[120, 111, 114]⟩)]) := by
  refine fn_ev tabT Tryz.func38 rfl rfl rfl rfl rfl rfl ?_
  intro w0 s0 mx
  refine ev_R tabT [] 100 ?_
  refine ev_R tabT [] 200 ?_
  refine ev_ret ?_
  exact FinV.ret rfl (SubP.refl _)
theorem ConcatSt_ok  : Fn Tryz.prog 41 [.sl false 1 lap2 (fun x => [stsP x]) []] (stsP []) := by
  refine fn_ev tabT Tryz.func41 rfl rfl rfl rfl rfl rfl ?_
  intro w0 s0 mx
  refine ev_R tabT [] 100 ?_
  refine ev_R tabT [] 200 ?_
  refine ev_seq (ev_R tabT [] 300 ?_)
  refine ev_block ?_
  refine ev_loopK (ι := {k : Nat // k ≤ 2}) [0, 9, 10] [] 350 (fun x => [(3, .v (.int .i64 (0 : Nat))), (11, .v (.int .i64 x.1))]) (fun _ => []) (fun x => 2 - x.1) ⟨0, Nat.zero_le _⟩ ?_
  refine ⟨⟨le_t, le_o, rfl, rfl⟩, fun x => ?_⟩
  skip
  refine ev_R tabT [] 400 ?_
  refine ev_seq (ev_cond rfl (fun c3 => ?_) (fun c3 => ?_))
  · have hlt : x.1 < 2 := by
      have h9 := c3
      simp [lap2] at h9
      omega
    refine ev_skip (exS_normal (ev_seq (ev_block (ev_R tabT [] 500 ?_))))
    refine ev_seq (ev_region tabT [] 600 rfl ?_)
    repeat (first | refine sat_same ?_ | refine sat_impA ?_ | refine sat_need (by first | (rw [lap2_at]; exact ini (by decide) (by decide)) | first | exact trivial | omega | exact ini (by omega) (by omega) | (intro hh; simp at hh; exact ini (by omega) (by omega)) | (intro hh; simp at hh ⊢; omega) | (simp at *; omega) | (simp_all; done)) ?_)
    refine sat_done (exS_normal (ev_R tabT [] 700 ?_))
    refine ev_if (fun c6 => ?_) (fun c6 => ?_)
    ·
      omega
    ·
      refine ev_skip (exBl_normal (exS_normal (ev_Q tabT [] 900 ?_)))
      exact exL_normal (⟨x.1 + 1, by omega⟩) ⟨⟨Sub.int (by rw [lap2_at]; rfl), Sub.int (by push_cast; rfl), le_t⟩, le_o, rfl, rfl⟩ (by show 2 - (x.1 + 1) < 2 - x.1; omega)
  · skip
    refine ev_exit (exS_exit (exL_exit (exBl_same (exS_normal ?_))))
    refine ev_seq (ev_region tabT [24] 1000 rfl ?_)
    refine sat_go ?_
    refine sat_fnO _ _ _ (GrowSt_ok) ?_
    refine sat_go ?_
    refine sat_done (exS_normal (ev_seq (ev_R tabT [] 1100 ?_)))
    refine ev_block ?_
    refine ev_loopK (ι := {k : Nat // k ≤ 2}) [25, 26] [] 1150 (fun y => [(27, .v (.int .i64 y.1)), (6, .own 401 18 [])]) (fun y => [(401, .row 59 18 0)]) (fun y => 2 - y.1) ⟨0, Nat.zero_le _⟩ ?_
    refine ⟨⟨le_t, le_o, rfl, rfl⟩, fun y => ?_⟩
    skip
    refine ev_R tabT [] 1200 ?_
    refine ev_seq (ev_cond rfl (fun c11 => ?_) (fun c11 => ?_))
    · have hlt : y.1 < 2 := by
        have h9 := c11
        simp [lap2] at h9
        omega
      refine ev_skip (exS_normal (ev_seq (ev_block (ev_R tabT [] 1300 ?_))))
      refine ev_region tabT [] 1400 rfl ?_
      repeat (first | refine sat_same ?_ | refine sat_impA ?_ | refine sat_need (by first | (simp only [List.length_map, lap2_at]; decide) | first | exact trivial | omega | exact ini (by omega) (by omega) | (intro hh; simp at hh; exact ini (by omega) (by omega)) | (intro hh; simp at hh ⊢; omega) | (simp at *; omega) | (simp_all; done)) ?_)
      refine sat_done (exBl_normal (exS_normal (ev_Q tabT [] 1500 ?_)))
      exact exL_normal (⟨y.1 + 1, by omega⟩) ⟨⟨Sub.int (by push_cast; rfl), Sub.own (by rw [lap2_at]; rfl), le_t⟩, ⟨⟨rfl, rfl, by rw [lap2_at]; rfl⟩, le_o⟩, rfl, rfl⟩ (by show 2 - (y.1 + 1) < 2 - y.1; omega)
    · skip
      refine ev_exit (exS_exit (exL_exit (exBl_same (exS_normal (ev_R tabT [] 1600 ?_)))))
      refine ev_ret ?_
      exact FinV.ret rfl (SubP.ownSl rfl)
theorem opApp5_ok (h : List Ob) (a b : Vl) (p : Qr.Nm a) (q : Qr.Nm b) : Fn Tryz.prog 44 [hpQ me md h, .v (.int .i64 5), .agg (vlD a), .agg (vlD b)] (.tup [.agg (stD (Qr.addS a b)), .v (.bool true)]) := by
  refine fn_ev tabT Tryz.func44 rfl rfl rfl rfl rfl rfl ?_
  intro w0 s0 mx
  refine ev_R tabT [] 100 ?_
  refine ev_seq ?_
  refine ev_seq (ev_region tabT [] 200 rfl ?_)
  refine sat_go ?_
  refine sat_fn _ (opNum5_ok a b p q) rfl ?_
  refine sat_go ?_
  refine sat_done (exS_normal (ev_R tabT [] 300 ?_))
  refine ev_if (fun c2 => ?_) (fun c2 => ?_)
  ·
    refine ev_R tabT [] 400 ?_
    refine ev_ret (exS_ret ?_)
    exact FinV.ret rfl (SubP.refl _)
  ·
    exact absurd c2 (by decide)
theorem opApp6_ok (h : List Ob) (a b : Vl) (p : Qr.Nm a) (q : Qr.Nm b) : Fn Tryz.prog 44 [hpQ me md h, .v (.int .i64 6), .agg (vlD a), .agg (vlD b)] (.tup [.agg (stD (Qr.subS a b)), .v (.bool true)]) := by
  refine fn_ev tabT Tryz.func44 rfl rfl rfl rfl rfl rfl ?_
  intro w0 s0 mx
  refine ev_R tabT [] 100 ?_
  refine ev_seq ?_
  refine ev_seq (ev_region tabT [] 200 rfl ?_)
  refine sat_go ?_
  refine sat_fn _ (opNum6_ok a b p q) rfl ?_
  refine sat_go ?_
  refine sat_done (exS_normal (ev_R tabT [] 300 ?_))
  refine ev_if (fun c2 => ?_) (fun c2 => ?_)
  ·
    refine ev_R tabT [] 400 ?_
    refine ev_ret (exS_ret ?_)
    exact FinV.ret rfl (SubP.refl _)
  ·
    exact absurd c2 (by decide)
theorem opApp7_ok (h : List Ob) (a b : Vl) (p : Qr.Nm a) (q : Qr.Nm b) : Fn Tryz.prog 44 [hpQ me md h, .v (.int .i64 7), .agg (vlD a), .agg (vlD b)] (.tup [.agg (stD (Qr.mulS a b)), .v (.bool true)]) := by
  refine fn_ev tabT Tryz.func44 rfl rfl rfl rfl rfl rfl ?_
  intro w0 s0 mx
  refine ev_R tabT [] 100 ?_
  refine ev_seq ?_
  refine ev_seq (ev_region tabT [] 200 rfl ?_)
  refine sat_go ?_
  refine sat_fn _ (opNum7_ok a b p q) rfl ?_
  refine sat_go ?_
  refine sat_done (exS_normal (ev_R tabT [] 300 ?_))
  refine ev_if (fun c2 => ?_) (fun c2 => ?_)
  ·
    refine ev_R tabT [] 400 ?_
    refine ev_ret (exS_ret ?_)
    exact FinV.ret rfl (SubP.refl _)
  ·
    exact absurd c2 (by decide)
theorem opApp8_ok (h : List Ob) (a b : Vl) (p : Qr.Nm a) (q : Qr.Nm b) : Fn Tryz.prog 44 [hpQ me md h, .v (.int .i64 8), .agg (vlD a), .agg (vlD b)] (.tup [.agg (stD (Qr.divS a b)), .v (.bool true)]) := by
  refine fn_ev tabT Tryz.func44 rfl rfl rfl rfl rfl rfl ?_
  intro w0 s0 mx
  refine ev_R tabT [] 100 ?_
  refine ev_seq ?_
  refine ev_seq (ev_region tabT [] 200 rfl ?_)
  refine sat_go ?_
  refine sat_fn _ (opNum8_ok a b p q) rfl ?_
  refine sat_go ?_
  refine sat_done (exS_normal (ev_R tabT [] 300 ?_))
  refine ev_if (fun c2 => ?_) (fun c2 => ?_)
  ·
    refine ev_R tabT [] 400 ?_
    refine ev_ret (exS_ret ?_)
    exact FinV.ret rfl (SubP.refl _)
  ·
    exact absurd c2 (by decide)
set_option maxHeartbeats 1000000 in
theorem opBin5_ok (h : List Ob) (a b : Vl) (p : Qr.Nm a) (q : Qr.Nm b) : Fn Tryz.prog 21 [hpQ me md h, .v (.int .i64 5), .agg (vlD a), .agg (vlD b)] (plP (Qr.addS a b)) := by
  have hka := nm_k p
  have hkb := nm_k q
  refine fn_ev tabT Tryz.func21 rfl rfl rfl rfl rfl rfl ?_
  intro w0 s0 mx
  refine ev_R tabT [] 100 ?_
  refine ev_seq (ev_region tabT [] 200 rfl ?_)
  refine sat_go ?_
  refine sat_fn _ (binaries_ok) rfl ?_
  refine sat_go ?_
  refine sat_done (exS_normal ?_)
  refine ev_seq (ev_drawn tabT [] [[], [0], [0, 1], [], [], [4], [4, 5], [], [7], [0, 1, 2, 3, 4, 5, 6, 7, 8], [0, 1, 2, 3, 4, 5, 6, 7, 8, 9]] 300 mixT (by kernel_rfl) rfl ?_)
  repeat (first | refine sat_same ?_ | refine sat_impA ?_ | refine sat_need (by first | (decide +kernel) | (simp only [ByteArray.size_append, bszQ, List.size_toArray, List.length_cons, List.length_nil]; omega) | first | exact trivial | omega | exact ini (by omega) (by omega) | (intro hh; simp at hh; exact ini (by omega) (by omega)) | (intro hh; simp at hh ⊢; omega) | (simp at *; omega) | (simp_all; done)) ?_)
  refine sat_fn _ ((opAtt0_ok h a _ [b] hka).args ⟨SubP.refl _, SubP.refl _, SubP.refl _, SubP.slrSl rfl, trivial⟩) rfl ?_
  repeat (first | refine sat_same ?_ | refine sat_impA ?_ | refine sat_need (by first | (decide +kernel) | (simp only [ByteArray.size_append, bszQ, List.size_toArray, List.length_cons, List.length_nil]; omega) | first | exact trivial | omega | exact ini (by omega) (by omega) | (intro hh; simp at hh; exact ini (by omega) (by omega)) | (intro hh; simp at hh ⊢; omega) | (simp at *; omega) | (simp_all; done)) ?_)
  refine sat_done (exS_normal (ev_R tabT [] 400 ?_))
  refine ev_seq ?_
  refine ev_seq (ev_drawn tabT [] [[], [0], [0, 1], [], [0, 1, 2, 3], [], [5], [5, 6], [], [0, 1, 2, 3, 4, 5, 6, 7, 8], [0, 1, 2, 3, 4, 5, 6, 7, 8, 9]] 500 mixT (by kernel_rfl) rfl ?_)
  refine sat_go ?_
  refine sat_fn _ (heapClassOf_ok h a (cf_no hka)) rfl ?_
  refine sat_go ?_
  refine sat_fn _ (heapClassOf_ok h b (cf_no hkb)) rfl ?_
  refine sat_go ?_
  refine sat_done (exS_normal (ev_if (fun c4 => ?_) (fun c4 => ?_)))
  ·
    refine ev_drawn tabT [] [[], [0], [0, 1], [], [], [4], [4, 5], [], [7], [0, 1, 2, 3, 4, 5, 6, 7, 8], [0, 1, 2, 3, 4, 5, 6, 7, 8, 9]] 600 mixT (by kernel_rfl) rfl ?_
    repeat (first | refine sat_same ?_ | refine sat_impA ?_ | refine sat_need (by first | (decide +kernel) | (simp only [ByteArray.size_append, bszQ, List.size_toArray, List.length_cons, List.length_nil]; omega) | first | exact trivial | omega | exact ini (by omega) (by omega) | (intro hh; simp at hh; exact ini (by omega) (by omega)) | (intro hh; simp at hh ⊢; omega) | (simp at *; omega) | (simp_all; done)) ?_)
    refine sat_fn _ ((opAtt0_ok h b _ [a] hkb).args ⟨SubP.refl _, SubP.refl _, SubP.refl _, SubP.slrSl rfl, trivial⟩) rfl ?_
    repeat (first | refine sat_same ?_ | refine sat_impA ?_ | refine sat_need (by first | (decide +kernel) | (simp only [ByteArray.size_append, bszQ, List.size_toArray, List.length_cons, List.length_nil]; omega) | first | exact trivial | omega | exact ini (by omega) (by omega) | (intro hh; simp at hh; exact ini (by omega) (by omega)) | (intro hh; simp at hh ⊢; omega) | (simp at *; omega) | (simp_all; done)) ?_)
    refine sat_done (exS_normal ?_)
    refine ev_seq (ev_region tabT [] 700 rfl ?_)
    refine sat_go ?_
    refine sat_fn _ ((ConcatSt_ok).args ⟨by refine SubP.slrRows ?_; repeat (first | exact trivial | exact SubP.refl _ | exact SubP.nilSl rfl | refine ⟨?_, ?_⟩), trivial⟩) rfl ?_
    refine sat_go ?_
    refine sat_done (exS_normal (ev_seq ?_))
    refine ev_seq (ev_drawn tabT [] [[], [0], [0, 1], [], [], [], [5], [5, 6], [0, 1, 2, 3, 4, 5, 6, 7]] 800 mixT (by kernel_rfl) rfl ?_)
    repeat (first | refine sat_same ?_ | refine sat_impA ?_ | refine sat_need (by first | (decide +kernel) | (simp only [ByteArray.size_append, bszQ, List.size_toArray, List.length_cons, List.length_nil]; omega) | first | exact trivial | omega | exact ini (by omega) (by omega) | (intro hh; simp at hh; exact ini (by omega) (by omega)) | (intro hh; simp at hh ⊢; omega) | (simp at *; omega) | (simp_all; done)) ?_)
    refine sat_fn _ (opRefl0_ok h a b _ hka hkb) rfl ?_
    repeat (first | refine sat_same ?_ | refine sat_impA ?_ | refine sat_need (by first | (decide +kernel) | (simp only [ByteArray.size_append, bszQ, List.size_toArray, List.length_cons, List.length_nil]; omega) | first | exact trivial | omega | exact ini (by omega) (by omega) | (intro hh; simp at hh; exact ini (by omega) (by omega)) | (intro hh; simp at hh ⊢; omega) | (simp at *; omega) | (simp_all; done)) ?_)
    refine sat_done (exS_normal (ev_if (fun c7 => ?_) (fun c7 => ?_)))
    ·
      exact absurd c7 (by decide)
    ·
      refine ev_skip (exS_normal (ev_R tabT [] 1000 ?_))
      refine ev_seq ?_
      refine ev_seq (ev_drawn tabT [] [[], [0], [0, 1], [], [0, 1, 2, 3], [0, 1, 2, 3, 4], [0, 1, 2, 3, 4, 5], [0, 1, 2, 3, 4, 5, 6], [0, 1, 2, 3, 4, 5, 6, 7], [0, 1, 2, 3, 4, 5, 6, 7, 8], [0, 1, 2, 3, 4, 5, 6], [0, 1, 2, 3, 4, 5, 6, 7, 8, 9, 10], [0, 1, 2, 3, 4, 5, 6, 7, 8, 9, 10, 11], [0, 1, 2, 3, 4, 5, 6, 7, 8, 9, 10, 11, 12]] 1100 mixT (by kernel_rfl) rfl ?_)
      refine sat_go ?_
      refine sat_fn _ (opInst0_ok h a hka) rfl ?_
      refine sat_go ?_
      refine sat_fnG _ (fun hg11 => opInst0_ok h b hkb) rfl ?_
      refine sat_go ?_
      refine sat_done (exS_normal (ev_if (fun c10 => ?_) (fun c10 => ?_)))
      ·
        refine ev_region tabT [] 1200 rfl ?_
        refine sat_go ?_
        refine sat_fn _ (opApp5_ok h a b p q) rfl ?_
        refine sat_go ?_
        refine sat_done (exS_normal (ev_seq (ev_R tabT [] 1300 ?_)))
        refine ev_if (fun c12 => ?_) (fun c12 => ?_)
        ·
          exact absurd c12 (by decide)
        ·
          refine ev_skip (exS_normal (ev_R tabT [] 1500 ?_))
          refine ev_R tabT [] 1600 ?_
          refine ev_ret ?_
          exact FinV.ret rfl (SubP.agg (by repeat (first | exact trivial | exact SubP.refl _ | exact SubP.nilSl rfl | refine ⟨?_, ?_⟩)))
      ·
        simp at c10
  ·
    refine ev_skip (exS_normal ?_)
    refine ev_seq (ev_region tabT [] 700 rfl ?_)
    refine sat_go ?_
    refine sat_fn _ ((ConcatSt_ok).args ⟨by refine SubP.slrRows ?_; repeat (first | exact trivial | exact SubP.refl _ | exact SubP.nilSl rfl | refine ⟨?_, ?_⟩), trivial⟩) rfl ?_
    refine sat_go ?_
    refine sat_done (exS_normal (ev_seq ?_))
    refine ev_seq (ev_drawn tabT [] [[], [0], [0, 1], [], [], [], [5], [5, 6], [0, 1, 2, 3, 4, 5, 6, 7]] 800 mixT (by kernel_rfl) rfl ?_)
    repeat (first | refine sat_same ?_ | refine sat_impA ?_ | refine sat_need (by first | (decide +kernel) | (simp only [ByteArray.size_append, bszQ, List.size_toArray, List.length_cons, List.length_nil]; omega) | first | exact trivial | omega | exact ini (by omega) (by omega) | (intro hh; simp at hh; exact ini (by omega) (by omega)) | (intro hh; simp at hh ⊢; omega) | (simp at *; omega) | (simp_all; done)) ?_)
    refine sat_fn _ (opRefl0_ok h a b _ hka hkb) rfl ?_
    repeat (first | refine sat_same ?_ | refine sat_impA ?_ | refine sat_need (by first | (decide +kernel) | (simp only [ByteArray.size_append, bszQ, List.size_toArray, List.length_cons, List.length_nil]; omega) | first | exact trivial | omega | exact ini (by omega) (by omega) | (intro hh; simp at hh; exact ini (by omega) (by omega)) | (intro hh; simp at hh ⊢; omega) | (simp at *; omega) | (simp_all; done)) ?_)
    refine sat_done (exS_normal (ev_if (fun c7 => ?_) (fun c7 => ?_)))
    ·
      exact absurd c7 (by decide)
    ·
      refine ev_skip (exS_normal (ev_R tabT [] 1000 ?_))
      refine ev_seq ?_
      refine ev_seq (ev_drawn tabT [] [[], [0], [0, 1], [], [0, 1, 2, 3], [0, 1, 2, 3, 4], [0, 1, 2, 3, 4, 5], [0, 1, 2, 3, 4, 5, 6], [0, 1, 2, 3, 4, 5, 6, 7], [0, 1, 2, 3, 4, 5, 6, 7, 8], [0, 1, 2, 3, 4, 5, 6], [0, 1, 2, 3, 4, 5, 6, 7, 8, 9, 10], [0, 1, 2, 3, 4, 5, 6, 7, 8, 9, 10, 11], [0, 1, 2, 3, 4, 5, 6, 7, 8, 9, 10, 11, 12]] 1100 mixT (by kernel_rfl) rfl ?_)
      refine sat_go ?_
      refine sat_fn _ (opInst0_ok h a hka) rfl ?_
      refine sat_go ?_
      refine sat_fnG _ (fun hg11 => opInst0_ok h b hkb) rfl ?_
      refine sat_go ?_
      refine sat_done (exS_normal (ev_if (fun c10 => ?_) (fun c10 => ?_)))
      ·
        refine ev_region tabT [] 1200 rfl ?_
        refine sat_go ?_
        refine sat_fn _ (opApp5_ok h a b p q) rfl ?_
        refine sat_go ?_
        refine sat_done (exS_normal (ev_seq (ev_R tabT [] 1300 ?_)))
        refine ev_if (fun c12 => ?_) (fun c12 => ?_)
        ·
          exact absurd c12 (by decide)
        ·
          refine ev_skip (exS_normal (ev_R tabT [] 1500 ?_))
          refine ev_R tabT [] 1600 ?_
          refine ev_ret ?_
          exact FinV.ret rfl (SubP.agg (by repeat (first | exact trivial | exact SubP.refl _ | exact SubP.nilSl rfl | refine ⟨?_, ?_⟩)))
      ·
        simp at c10
set_option maxHeartbeats 1000000 in
theorem opBin6_ok (h : List Ob) (a b : Vl) (p : Qr.Nm a) (q : Qr.Nm b) : Fn Tryz.prog 21 [hpQ me md h, .v (.int .i64 6), .agg (vlD a), .agg (vlD b)] (plP (Qr.subS a b)) := by
  have hka := nm_k p
  have hkb := nm_k q
  refine fn_ev tabT Tryz.func21 rfl rfl rfl rfl rfl rfl ?_
  intro w0 s0 mx
  refine ev_R tabT [] 100 ?_
  refine ev_seq (ev_region tabT [] 200 rfl ?_)
  refine sat_go ?_
  refine sat_fn _ (binaries_ok) rfl ?_
  refine sat_go ?_
  refine sat_done (exS_normal ?_)
  refine ev_seq (ev_drawn tabT [] [[], [0], [0, 1], [], [], [4], [4, 5], [], [7], [0, 1, 2, 3, 4, 5, 6, 7, 8], [0, 1, 2, 3, 4, 5, 6, 7, 8, 9]] 300 mixT (by kernel_rfl) rfl ?_)
  repeat (first | refine sat_same ?_ | refine sat_impA ?_ | refine sat_need (by first | (decide +kernel) | (simp only [ByteArray.size_append, bszQ, List.size_toArray, List.length_cons, List.length_nil]; omega) | first | exact trivial | omega | exact ini (by omega) (by omega) | (intro hh; simp at hh; exact ini (by omega) (by omega)) | (intro hh; simp at hh ⊢; omega) | (simp at *; omega) | (simp_all; done)) ?_)
  refine sat_fn _ ((opAtt0_ok h a _ [b] hka).args ⟨SubP.refl _, SubP.refl _, SubP.refl _, SubP.slrSl rfl, trivial⟩) rfl ?_
  repeat (first | refine sat_same ?_ | refine sat_impA ?_ | refine sat_need (by first | (decide +kernel) | (simp only [ByteArray.size_append, bszQ, List.size_toArray, List.length_cons, List.length_nil]; omega) | first | exact trivial | omega | exact ini (by omega) (by omega) | (intro hh; simp at hh; exact ini (by omega) (by omega)) | (intro hh; simp at hh ⊢; omega) | (simp at *; omega) | (simp_all; done)) ?_)
  refine sat_done (exS_normal (ev_R tabT [] 400 ?_))
  refine ev_seq ?_
  refine ev_seq (ev_drawn tabT [] [[], [0], [0, 1], [], [0, 1, 2, 3], [], [5], [5, 6], [], [0, 1, 2, 3, 4, 5, 6, 7, 8], [0, 1, 2, 3, 4, 5, 6, 7, 8, 9]] 500 mixT (by kernel_rfl) rfl ?_)
  refine sat_go ?_
  refine sat_fn _ (heapClassOf_ok h a (cf_no hka)) rfl ?_
  refine sat_go ?_
  refine sat_fn _ (heapClassOf_ok h b (cf_no hkb)) rfl ?_
  refine sat_go ?_
  refine sat_done (exS_normal (ev_if (fun c4 => ?_) (fun c4 => ?_)))
  ·
    refine ev_drawn tabT [] [[], [0], [0, 1], [], [], [4], [4, 5], [], [7], [0, 1, 2, 3, 4, 5, 6, 7, 8], [0, 1, 2, 3, 4, 5, 6, 7, 8, 9]] 600 mixT (by kernel_rfl) rfl ?_
    repeat (first | refine sat_same ?_ | refine sat_impA ?_ | refine sat_need (by first | (decide +kernel) | (simp only [ByteArray.size_append, bszQ, List.size_toArray, List.length_cons, List.length_nil]; omega) | first | exact trivial | omega | exact ini (by omega) (by omega) | (intro hh; simp at hh; exact ini (by omega) (by omega)) | (intro hh; simp at hh ⊢; omega) | (simp at *; omega) | (simp_all; done)) ?_)
    refine sat_fn _ ((opAtt0_ok h b _ [a] hkb).args ⟨SubP.refl _, SubP.refl _, SubP.refl _, SubP.slrSl rfl, trivial⟩) rfl ?_
    repeat (first | refine sat_same ?_ | refine sat_impA ?_ | refine sat_need (by first | (decide +kernel) | (simp only [ByteArray.size_append, bszQ, List.size_toArray, List.length_cons, List.length_nil]; omega) | first | exact trivial | omega | exact ini (by omega) (by omega) | (intro hh; simp at hh; exact ini (by omega) (by omega)) | (intro hh; simp at hh ⊢; omega) | (simp at *; omega) | (simp_all; done)) ?_)
    refine sat_done (exS_normal ?_)
    refine ev_seq (ev_region tabT [] 700 rfl ?_)
    refine sat_go ?_
    refine sat_fn _ ((ConcatSt_ok).args ⟨by refine SubP.slrRows ?_; repeat (first | exact trivial | exact SubP.refl _ | exact SubP.nilSl rfl | refine ⟨?_, ?_⟩), trivial⟩) rfl ?_
    refine sat_go ?_
    refine sat_done (exS_normal (ev_seq ?_))
    refine ev_seq (ev_drawn tabT [] [[], [0], [0, 1], [], [], [], [5], [5, 6], [0, 1, 2, 3, 4, 5, 6, 7]] 800 mixT (by kernel_rfl) rfl ?_)
    repeat (first | refine sat_same ?_ | refine sat_impA ?_ | refine sat_need (by first | (decide +kernel) | (simp only [ByteArray.size_append, bszQ, List.size_toArray, List.length_cons, List.length_nil]; omega) | first | exact trivial | omega | exact ini (by omega) (by omega) | (intro hh; simp at hh; exact ini (by omega) (by omega)) | (intro hh; simp at hh ⊢; omega) | (simp at *; omega) | (simp_all; done)) ?_)
    refine sat_fn _ (opRefl0_ok h a b _ hka hkb) rfl ?_
    repeat (first | refine sat_same ?_ | refine sat_impA ?_ | refine sat_need (by first | (decide +kernel) | (simp only [ByteArray.size_append, bszQ, List.size_toArray, List.length_cons, List.length_nil]; omega) | first | exact trivial | omega | exact ini (by omega) (by omega) | (intro hh; simp at hh; exact ini (by omega) (by omega)) | (intro hh; simp at hh ⊢; omega) | (simp at *; omega) | (simp_all; done)) ?_)
    refine sat_done (exS_normal (ev_if (fun c7 => ?_) (fun c7 => ?_)))
    ·
      exact absurd c7 (by decide)
    ·
      refine ev_skip (exS_normal (ev_R tabT [] 1000 ?_))
      refine ev_seq ?_
      refine ev_seq (ev_drawn tabT [] [[], [0], [0, 1], [], [0, 1, 2, 3], [0, 1, 2, 3, 4], [0, 1, 2, 3, 4, 5], [0, 1, 2, 3, 4, 5, 6], [0, 1, 2, 3, 4, 5, 6, 7], [0, 1, 2, 3, 4, 5, 6, 7, 8], [0, 1, 2, 3, 4, 5, 6], [0, 1, 2, 3, 4, 5, 6, 7, 8, 9, 10], [0, 1, 2, 3, 4, 5, 6, 7, 8, 9, 10, 11], [0, 1, 2, 3, 4, 5, 6, 7, 8, 9, 10, 11, 12]] 1100 mixT (by kernel_rfl) rfl ?_)
      refine sat_go ?_
      refine sat_fn _ (opInst0_ok h a hka) rfl ?_
      refine sat_go ?_
      refine sat_fnG _ (fun hg11 => opInst0_ok h b hkb) rfl ?_
      refine sat_go ?_
      refine sat_done (exS_normal (ev_if (fun c10 => ?_) (fun c10 => ?_)))
      ·
        refine ev_region tabT [] 1200 rfl ?_
        refine sat_go ?_
        refine sat_fn _ (opApp6_ok h a b p q) rfl ?_
        refine sat_go ?_
        refine sat_done (exS_normal (ev_seq (ev_R tabT [] 1300 ?_)))
        refine ev_if (fun c12 => ?_) (fun c12 => ?_)
        ·
          exact absurd c12 (by decide)
        ·
          refine ev_skip (exS_normal (ev_R tabT [] 1500 ?_))
          refine ev_R tabT [] 1600 ?_
          refine ev_ret ?_
          exact FinV.ret rfl (SubP.agg (by repeat (first | exact trivial | exact SubP.refl _ | exact SubP.nilSl rfl | refine ⟨?_, ?_⟩)))
      ·
        simp at c10
  ·
    refine ev_skip (exS_normal ?_)
    refine ev_seq (ev_region tabT [] 700 rfl ?_)
    refine sat_go ?_
    refine sat_fn _ ((ConcatSt_ok).args ⟨by refine SubP.slrRows ?_; repeat (first | exact trivial | exact SubP.refl _ | exact SubP.nilSl rfl | refine ⟨?_, ?_⟩), trivial⟩) rfl ?_
    refine sat_go ?_
    refine sat_done (exS_normal (ev_seq ?_))
    refine ev_seq (ev_drawn tabT [] [[], [0], [0, 1], [], [], [], [5], [5, 6], [0, 1, 2, 3, 4, 5, 6, 7]] 800 mixT (by kernel_rfl) rfl ?_)
    repeat (first | refine sat_same ?_ | refine sat_impA ?_ | refine sat_need (by first | (decide +kernel) | (simp only [ByteArray.size_append, bszQ, List.size_toArray, List.length_cons, List.length_nil]; omega) | first | exact trivial | omega | exact ini (by omega) (by omega) | (intro hh; simp at hh; exact ini (by omega) (by omega)) | (intro hh; simp at hh ⊢; omega) | (simp at *; omega) | (simp_all; done)) ?_)
    refine sat_fn _ (opRefl0_ok h a b _ hka hkb) rfl ?_
    repeat (first | refine sat_same ?_ | refine sat_impA ?_ | refine sat_need (by first | (decide +kernel) | (simp only [ByteArray.size_append, bszQ, List.size_toArray, List.length_cons, List.length_nil]; omega) | first | exact trivial | omega | exact ini (by omega) (by omega) | (intro hh; simp at hh; exact ini (by omega) (by omega)) | (intro hh; simp at hh ⊢; omega) | (simp at *; omega) | (simp_all; done)) ?_)
    refine sat_done (exS_normal (ev_if (fun c7 => ?_) (fun c7 => ?_)))
    ·
      exact absurd c7 (by decide)
    ·
      refine ev_skip (exS_normal (ev_R tabT [] 1000 ?_))
      refine ev_seq ?_
      refine ev_seq (ev_drawn tabT [] [[], [0], [0, 1], [], [0, 1, 2, 3], [0, 1, 2, 3, 4], [0, 1, 2, 3, 4, 5], [0, 1, 2, 3, 4, 5, 6], [0, 1, 2, 3, 4, 5, 6, 7], [0, 1, 2, 3, 4, 5, 6, 7, 8], [0, 1, 2, 3, 4, 5, 6], [0, 1, 2, 3, 4, 5, 6, 7, 8, 9, 10], [0, 1, 2, 3, 4, 5, 6, 7, 8, 9, 10, 11], [0, 1, 2, 3, 4, 5, 6, 7, 8, 9, 10, 11, 12]] 1100 mixT (by kernel_rfl) rfl ?_)
      refine sat_go ?_
      refine sat_fn _ (opInst0_ok h a hka) rfl ?_
      refine sat_go ?_
      refine sat_fnG _ (fun hg11 => opInst0_ok h b hkb) rfl ?_
      refine sat_go ?_
      refine sat_done (exS_normal (ev_if (fun c10 => ?_) (fun c10 => ?_)))
      ·
        refine ev_region tabT [] 1200 rfl ?_
        refine sat_go ?_
        refine sat_fn _ (opApp6_ok h a b p q) rfl ?_
        refine sat_go ?_
        refine sat_done (exS_normal (ev_seq (ev_R tabT [] 1300 ?_)))
        refine ev_if (fun c12 => ?_) (fun c12 => ?_)
        ·
          exact absurd c12 (by decide)
        ·
          refine ev_skip (exS_normal (ev_R tabT [] 1500 ?_))
          refine ev_R tabT [] 1600 ?_
          refine ev_ret ?_
          exact FinV.ret rfl (SubP.agg (by repeat (first | exact trivial | exact SubP.refl _ | exact SubP.nilSl rfl | refine ⟨?_, ?_⟩)))
      ·
        simp at c10
set_option maxHeartbeats 1000000 in
theorem opBin7_ok (h : List Ob) (a b : Vl) (p : Qr.Nm a) (q : Qr.Nm b) : Fn Tryz.prog 21 [hpQ me md h, .v (.int .i64 7), .agg (vlD a), .agg (vlD b)] (plP (Qr.mulS a b)) := by
  have hka := nm_k p
  have hkb := nm_k q
  refine fn_ev tabT Tryz.func21 rfl rfl rfl rfl rfl rfl ?_
  intro w0 s0 mx
  refine ev_R tabT [] 100 ?_
  refine ev_seq (ev_region tabT [] 200 rfl ?_)
  refine sat_go ?_
  refine sat_fn _ (binaries_ok) rfl ?_
  refine sat_go ?_
  refine sat_done (exS_normal ?_)
  refine ev_seq (ev_drawn tabT [] [[], [0], [0, 1], [], [], [4], [4, 5], [], [7], [0, 1, 2, 3, 4, 5, 6, 7, 8], [0, 1, 2, 3, 4, 5, 6, 7, 8, 9]] 300 mixT (by kernel_rfl) rfl ?_)
  repeat (first | refine sat_same ?_ | refine sat_impA ?_ | refine sat_need (by first | (decide +kernel) | (simp only [ByteArray.size_append, bszQ, List.size_toArray, List.length_cons, List.length_nil]; omega) | first | exact trivial | omega | exact ini (by omega) (by omega) | (intro hh; simp at hh; exact ini (by omega) (by omega)) | (intro hh; simp at hh ⊢; omega) | (simp at *; omega) | (simp_all; done)) ?_)
  refine sat_fn _ ((opAtt0_ok h a _ [b] hka).args ⟨SubP.refl _, SubP.refl _, SubP.refl _, SubP.slrSl rfl, trivial⟩) rfl ?_
  repeat (first | refine sat_same ?_ | refine sat_impA ?_ | refine sat_need (by first | (decide +kernel) | (simp only [ByteArray.size_append, bszQ, List.size_toArray, List.length_cons, List.length_nil]; omega) | first | exact trivial | omega | exact ini (by omega) (by omega) | (intro hh; simp at hh; exact ini (by omega) (by omega)) | (intro hh; simp at hh ⊢; omega) | (simp at *; omega) | (simp_all; done)) ?_)
  refine sat_done (exS_normal (ev_R tabT [] 400 ?_))
  refine ev_seq ?_
  refine ev_seq (ev_drawn tabT [] [[], [0], [0, 1], [], [0, 1, 2, 3], [], [5], [5, 6], [], [0, 1, 2, 3, 4, 5, 6, 7, 8], [0, 1, 2, 3, 4, 5, 6, 7, 8, 9]] 500 mixT (by kernel_rfl) rfl ?_)
  refine sat_go ?_
  refine sat_fn _ (heapClassOf_ok h a (cf_no hka)) rfl ?_
  refine sat_go ?_
  refine sat_fn _ (heapClassOf_ok h b (cf_no hkb)) rfl ?_
  refine sat_go ?_
  refine sat_done (exS_normal (ev_if (fun c4 => ?_) (fun c4 => ?_)))
  ·
    refine ev_drawn tabT [] [[], [0], [0, 1], [], [], [4], [4, 5], [], [7], [0, 1, 2, 3, 4, 5, 6, 7, 8], [0, 1, 2, 3, 4, 5, 6, 7, 8, 9]] 600 mixT (by kernel_rfl) rfl ?_
    repeat (first | refine sat_same ?_ | refine sat_impA ?_ | refine sat_need (by first | (decide +kernel) | (simp only [ByteArray.size_append, bszQ, List.size_toArray, List.length_cons, List.length_nil]; omega) | first | exact trivial | omega | exact ini (by omega) (by omega) | (intro hh; simp at hh; exact ini (by omega) (by omega)) | (intro hh; simp at hh ⊢; omega) | (simp at *; omega) | (simp_all; done)) ?_)
    refine sat_fn _ ((opAtt0_ok h b _ [a] hkb).args ⟨SubP.refl _, SubP.refl _, SubP.refl _, SubP.slrSl rfl, trivial⟩) rfl ?_
    repeat (first | refine sat_same ?_ | refine sat_impA ?_ | refine sat_need (by first | (decide +kernel) | (simp only [ByteArray.size_append, bszQ, List.size_toArray, List.length_cons, List.length_nil]; omega) | first | exact trivial | omega | exact ini (by omega) (by omega) | (intro hh; simp at hh; exact ini (by omega) (by omega)) | (intro hh; simp at hh ⊢; omega) | (simp at *; omega) | (simp_all; done)) ?_)
    refine sat_done (exS_normal ?_)
    refine ev_seq (ev_region tabT [] 700 rfl ?_)
    refine sat_go ?_
    refine sat_fn _ ((ConcatSt_ok).args ⟨by refine SubP.slrRows ?_; repeat (first | exact trivial | exact SubP.refl _ | exact SubP.nilSl rfl | refine ⟨?_, ?_⟩), trivial⟩) rfl ?_
    refine sat_go ?_
    refine sat_done (exS_normal (ev_seq ?_))
    refine ev_seq (ev_drawn tabT [] [[], [0], [0, 1], [], [], [], [5], [5, 6], [0, 1, 2, 3, 4, 5, 6, 7]] 800 mixT (by kernel_rfl) rfl ?_)
    repeat (first | refine sat_same ?_ | refine sat_impA ?_ | refine sat_need (by first | (decide +kernel) | (simp only [ByteArray.size_append, bszQ, List.size_toArray, List.length_cons, List.length_nil]; omega) | first | exact trivial | omega | exact ini (by omega) (by omega) | (intro hh; simp at hh; exact ini (by omega) (by omega)) | (intro hh; simp at hh ⊢; omega) | (simp at *; omega) | (simp_all; done)) ?_)
    refine sat_fn _ (opRefl0_ok h a b _ hka hkb) rfl ?_
    repeat (first | refine sat_same ?_ | refine sat_impA ?_ | refine sat_need (by first | (decide +kernel) | (simp only [ByteArray.size_append, bszQ, List.size_toArray, List.length_cons, List.length_nil]; omega) | first | exact trivial | omega | exact ini (by omega) (by omega) | (intro hh; simp at hh; exact ini (by omega) (by omega)) | (intro hh; simp at hh ⊢; omega) | (simp at *; omega) | (simp_all; done)) ?_)
    refine sat_done (exS_normal (ev_if (fun c7 => ?_) (fun c7 => ?_)))
    ·
      exact absurd c7 (by decide)
    ·
      refine ev_skip (exS_normal (ev_R tabT [] 1000 ?_))
      refine ev_seq ?_
      refine ev_seq (ev_drawn tabT [] [[], [0], [0, 1], [], [0, 1, 2, 3], [0, 1, 2, 3, 4], [0, 1, 2, 3, 4, 5], [0, 1, 2, 3, 4, 5, 6], [0, 1, 2, 3, 4, 5, 6, 7], [0, 1, 2, 3, 4, 5, 6, 7, 8], [0, 1, 2, 3, 4, 5, 6], [0, 1, 2, 3, 4, 5, 6, 7, 8, 9, 10], [0, 1, 2, 3, 4, 5, 6, 7, 8, 9, 10, 11], [0, 1, 2, 3, 4, 5, 6, 7, 8, 9, 10, 11, 12]] 1100 mixT (by kernel_rfl) rfl ?_)
      refine sat_go ?_
      refine sat_fn _ (opInst0_ok h a hka) rfl ?_
      refine sat_go ?_
      refine sat_fnG _ (fun hg11 => opInst0_ok h b hkb) rfl ?_
      refine sat_go ?_
      refine sat_done (exS_normal (ev_if (fun c10 => ?_) (fun c10 => ?_)))
      ·
        refine ev_region tabT [] 1200 rfl ?_
        refine sat_go ?_
        refine sat_fn _ (opApp7_ok h a b p q) rfl ?_
        refine sat_go ?_
        refine sat_done (exS_normal (ev_seq (ev_R tabT [] 1300 ?_)))
        refine ev_if (fun c12 => ?_) (fun c12 => ?_)
        ·
          exact absurd c12 (by decide)
        ·
          refine ev_skip (exS_normal (ev_R tabT [] 1500 ?_))
          refine ev_R tabT [] 1600 ?_
          refine ev_ret ?_
          exact FinV.ret rfl (SubP.agg (by repeat (first | exact trivial | exact SubP.refl _ | exact SubP.nilSl rfl | refine ⟨?_, ?_⟩)))
      ·
        simp at c10
  ·
    refine ev_skip (exS_normal ?_)
    refine ev_seq (ev_region tabT [] 700 rfl ?_)
    refine sat_go ?_
    refine sat_fn _ ((ConcatSt_ok).args ⟨by refine SubP.slrRows ?_; repeat (first | exact trivial | exact SubP.refl _ | exact SubP.nilSl rfl | refine ⟨?_, ?_⟩), trivial⟩) rfl ?_
    refine sat_go ?_
    refine sat_done (exS_normal (ev_seq ?_))
    refine ev_seq (ev_drawn tabT [] [[], [0], [0, 1], [], [], [], [5], [5, 6], [0, 1, 2, 3, 4, 5, 6, 7]] 800 mixT (by kernel_rfl) rfl ?_)
    repeat (first | refine sat_same ?_ | refine sat_impA ?_ | refine sat_need (by first | (decide +kernel) | (simp only [ByteArray.size_append, bszQ, List.size_toArray, List.length_cons, List.length_nil]; omega) | first | exact trivial | omega | exact ini (by omega) (by omega) | (intro hh; simp at hh; exact ini (by omega) (by omega)) | (intro hh; simp at hh ⊢; omega) | (simp at *; omega) | (simp_all; done)) ?_)
    refine sat_fn _ (opRefl0_ok h a b _ hka hkb) rfl ?_
    repeat (first | refine sat_same ?_ | refine sat_impA ?_ | refine sat_need (by first | (decide +kernel) | (simp only [ByteArray.size_append, bszQ, List.size_toArray, List.length_cons, List.length_nil]; omega) | first | exact trivial | omega | exact ini (by omega) (by omega) | (intro hh; simp at hh; exact ini (by omega) (by omega)) | (intro hh; simp at hh ⊢; omega) | (simp at *; omega) | (simp_all; done)) ?_)
    refine sat_done (exS_normal (ev_if (fun c7 => ?_) (fun c7 => ?_)))
    ·
      exact absurd c7 (by decide)
    ·
      refine ev_skip (exS_normal (ev_R tabT [] 1000 ?_))
      refine ev_seq ?_
      refine ev_seq (ev_drawn tabT [] [[], [0], [0, 1], [], [0, 1, 2, 3], [0, 1, 2, 3, 4], [0, 1, 2, 3, 4, 5], [0, 1, 2, 3, 4, 5, 6], [0, 1, 2, 3, 4, 5, 6, 7], [0, 1, 2, 3, 4, 5, 6, 7, 8], [0, 1, 2, 3, 4, 5, 6], [0, 1, 2, 3, 4, 5, 6, 7, 8, 9, 10], [0, 1, 2, 3, 4, 5, 6, 7, 8, 9, 10, 11], [0, 1, 2, 3, 4, 5, 6, 7, 8, 9, 10, 11, 12]] 1100 mixT (by kernel_rfl) rfl ?_)
      refine sat_go ?_
      refine sat_fn _ (opInst0_ok h a hka) rfl ?_
      refine sat_go ?_
      refine sat_fnG _ (fun hg11 => opInst0_ok h b hkb) rfl ?_
      refine sat_go ?_
      refine sat_done (exS_normal (ev_if (fun c10 => ?_) (fun c10 => ?_)))
      ·
        refine ev_region tabT [] 1200 rfl ?_
        refine sat_go ?_
        refine sat_fn _ (opApp7_ok h a b p q) rfl ?_
        refine sat_go ?_
        refine sat_done (exS_normal (ev_seq (ev_R tabT [] 1300 ?_)))
        refine ev_if (fun c12 => ?_) (fun c12 => ?_)
        ·
          exact absurd c12 (by decide)
        ·
          refine ev_skip (exS_normal (ev_R tabT [] 1500 ?_))
          refine ev_R tabT [] 1600 ?_
          refine ev_ret ?_
          exact FinV.ret rfl (SubP.agg (by repeat (first | exact trivial | exact SubP.refl _ | exact SubP.nilSl rfl | refine ⟨?_, ?_⟩)))
      ·
        simp at c10
set_option maxHeartbeats 1000000 in
theorem opBin8_ok (h : List Ob) (a b : Vl) (p : Qr.Nm a) (q : Qr.Nm b) : Fn Tryz.prog 21 [hpQ me md h, .v (.int .i64 8), .agg (vlD a), .agg (vlD b)] (plP (Qr.divS a b)) := by
  have hka := nm_k p
  have hkb := nm_k q
  refine fn_ev tabT Tryz.func21 rfl rfl rfl rfl rfl rfl ?_
  intro w0 s0 mx
  refine ev_R tabT [] 100 ?_
  refine ev_seq (ev_region tabT [] 200 rfl ?_)
  refine sat_go ?_
  refine sat_fn _ (binaries_ok) rfl ?_
  refine sat_go ?_
  refine sat_done (exS_normal ?_)
  refine ev_seq (ev_drawn tabT [] [[], [0], [0, 1], [], [], [4], [4, 5], [], [7], [0, 1, 2, 3, 4, 5, 6, 7, 8], [0, 1, 2, 3, 4, 5, 6, 7, 8, 9]] 300 mixT (by kernel_rfl) rfl ?_)
  repeat (first | refine sat_same ?_ | refine sat_impA ?_ | refine sat_need (by first | (decide +kernel) | (simp only [ByteArray.size_append, bszQ, List.size_toArray, List.length_cons, List.length_nil]; omega) | first | exact trivial | omega | exact ini (by omega) (by omega) | (intro hh; simp at hh; exact ini (by omega) (by omega)) | (intro hh; simp at hh ⊢; omega) | (simp at *; omega) | (simp_all; done)) ?_)
  refine sat_fn _ ((opAtt0_ok h a _ [b] hka).args ⟨SubP.refl _, SubP.refl _, SubP.refl _, SubP.slrSl rfl, trivial⟩) rfl ?_
  repeat (first | refine sat_same ?_ | refine sat_impA ?_ | refine sat_need (by first | (decide +kernel) | (simp only [ByteArray.size_append, bszQ, List.size_toArray, List.length_cons, List.length_nil]; omega) | first | exact trivial | omega | exact ini (by omega) (by omega) | (intro hh; simp at hh; exact ini (by omega) (by omega)) | (intro hh; simp at hh ⊢; omega) | (simp at *; omega) | (simp_all; done)) ?_)
  refine sat_done (exS_normal (ev_R tabT [] 400 ?_))
  refine ev_seq ?_
  refine ev_seq (ev_drawn tabT [] [[], [0], [0, 1], [], [0, 1, 2, 3], [], [5], [5, 6], [], [0, 1, 2, 3, 4, 5, 6, 7, 8], [0, 1, 2, 3, 4, 5, 6, 7, 8, 9]] 500 mixT (by kernel_rfl) rfl ?_)
  refine sat_go ?_
  refine sat_fn _ (heapClassOf_ok h a (cf_no hka)) rfl ?_
  refine sat_go ?_
  refine sat_fn _ (heapClassOf_ok h b (cf_no hkb)) rfl ?_
  refine sat_go ?_
  refine sat_done (exS_normal (ev_if (fun c4 => ?_) (fun c4 => ?_)))
  ·
    refine ev_drawn tabT [] [[], [0], [0, 1], [], [], [4], [4, 5], [], [7], [0, 1, 2, 3, 4, 5, 6, 7, 8], [0, 1, 2, 3, 4, 5, 6, 7, 8, 9]] 600 mixT (by kernel_rfl) rfl ?_
    repeat (first | refine sat_same ?_ | refine sat_impA ?_ | refine sat_need (by first | (decide +kernel) | (simp only [ByteArray.size_append, bszQ, List.size_toArray, List.length_cons, List.length_nil]; omega) | first | exact trivial | omega | exact ini (by omega) (by omega) | (intro hh; simp at hh; exact ini (by omega) (by omega)) | (intro hh; simp at hh ⊢; omega) | (simp at *; omega) | (simp_all; done)) ?_)
    refine sat_fn _ ((opAtt0_ok h b _ [a] hkb).args ⟨SubP.refl _, SubP.refl _, SubP.refl _, SubP.slrSl rfl, trivial⟩) rfl ?_
    repeat (first | refine sat_same ?_ | refine sat_impA ?_ | refine sat_need (by first | (decide +kernel) | (simp only [ByteArray.size_append, bszQ, List.size_toArray, List.length_cons, List.length_nil]; omega) | first | exact trivial | omega | exact ini (by omega) (by omega) | (intro hh; simp at hh; exact ini (by omega) (by omega)) | (intro hh; simp at hh ⊢; omega) | (simp at *; omega) | (simp_all; done)) ?_)
    refine sat_done (exS_normal ?_)
    refine ev_seq (ev_region tabT [] 700 rfl ?_)
    refine sat_go ?_
    refine sat_fn _ ((ConcatSt_ok).args ⟨by refine SubP.slrRows ?_; repeat (first | exact trivial | exact SubP.refl _ | exact SubP.nilSl rfl | refine ⟨?_, ?_⟩), trivial⟩) rfl ?_
    refine sat_go ?_
    refine sat_done (exS_normal (ev_seq ?_))
    refine ev_seq (ev_drawn tabT [] [[], [0], [0, 1], [], [], [], [5], [5, 6], [0, 1, 2, 3, 4, 5, 6, 7]] 800 mixT (by kernel_rfl) rfl ?_)
    repeat (first | refine sat_same ?_ | refine sat_impA ?_ | refine sat_need (by first | (decide +kernel) | (simp only [ByteArray.size_append, bszQ, List.size_toArray, List.length_cons, List.length_nil]; omega) | first | exact trivial | omega | exact ini (by omega) (by omega) | (intro hh; simp at hh; exact ini (by omega) (by omega)) | (intro hh; simp at hh ⊢; omega) | (simp at *; omega) | (simp_all; done)) ?_)
    refine sat_fn _ (opRefl0_ok h a b _ hka hkb) rfl ?_
    repeat (first | refine sat_same ?_ | refine sat_impA ?_ | refine sat_need (by first | (decide +kernel) | (simp only [ByteArray.size_append, bszQ, List.size_toArray, List.length_cons, List.length_nil]; omega) | first | exact trivial | omega | exact ini (by omega) (by omega) | (intro hh; simp at hh; exact ini (by omega) (by omega)) | (intro hh; simp at hh ⊢; omega) | (simp at *; omega) | (simp_all; done)) ?_)
    refine sat_done (exS_normal (ev_if (fun c7 => ?_) (fun c7 => ?_)))
    ·
      exact absurd c7 (by decide)
    ·
      refine ev_skip (exS_normal (ev_R tabT [] 1000 ?_))
      refine ev_seq ?_
      refine ev_seq (ev_drawn tabT [] [[], [0], [0, 1], [], [0, 1, 2, 3], [0, 1, 2, 3, 4], [0, 1, 2, 3, 4, 5], [0, 1, 2, 3, 4, 5, 6], [0, 1, 2, 3, 4, 5, 6, 7], [0, 1, 2, 3, 4, 5, 6, 7, 8], [0, 1, 2, 3, 4, 5, 6], [0, 1, 2, 3, 4, 5, 6, 7, 8, 9, 10], [0, 1, 2, 3, 4, 5, 6, 7, 8, 9, 10, 11], [0, 1, 2, 3, 4, 5, 6, 7, 8, 9, 10, 11, 12]] 1100 mixT (by kernel_rfl) rfl ?_)
      refine sat_go ?_
      refine sat_fn _ (opInst0_ok h a hka) rfl ?_
      refine sat_go ?_
      refine sat_fnG _ (fun hg11 => opInst0_ok h b hkb) rfl ?_
      refine sat_go ?_
      refine sat_done (exS_normal (ev_if (fun c10 => ?_) (fun c10 => ?_)))
      ·
        refine ev_region tabT [] 1200 rfl ?_
        refine sat_go ?_
        refine sat_fn _ (opApp8_ok h a b p q) rfl ?_
        refine sat_go ?_
        refine sat_done (exS_normal (ev_seq (ev_R tabT [] 1300 ?_)))
        refine ev_if (fun c12 => ?_) (fun c12 => ?_)
        ·
          exact absurd c12 (by decide)
        ·
          refine ev_skip (exS_normal (ev_R tabT [] 1500 ?_))
          refine ev_R tabT [] 1600 ?_
          refine ev_ret ?_
          exact FinV.ret rfl (SubP.agg (by repeat (first | exact trivial | exact SubP.refl _ | exact SubP.nilSl rfl | refine ⟨?_, ?_⟩)))
      ·
        simp at c10
  ·
    refine ev_skip (exS_normal ?_)
    refine ev_seq (ev_region tabT [] 700 rfl ?_)
    refine sat_go ?_
    refine sat_fn _ ((ConcatSt_ok).args ⟨by refine SubP.slrRows ?_; repeat (first | exact trivial | exact SubP.refl _ | exact SubP.nilSl rfl | refine ⟨?_, ?_⟩), trivial⟩) rfl ?_
    refine sat_go ?_
    refine sat_done (exS_normal (ev_seq ?_))
    refine ev_seq (ev_drawn tabT [] [[], [0], [0, 1], [], [], [], [5], [5, 6], [0, 1, 2, 3, 4, 5, 6, 7]] 800 mixT (by kernel_rfl) rfl ?_)
    repeat (first | refine sat_same ?_ | refine sat_impA ?_ | refine sat_need (by first | (decide +kernel) | (simp only [ByteArray.size_append, bszQ, List.size_toArray, List.length_cons, List.length_nil]; omega) | first | exact trivial | omega | exact ini (by omega) (by omega) | (intro hh; simp at hh; exact ini (by omega) (by omega)) | (intro hh; simp at hh ⊢; omega) | (simp at *; omega) | (simp_all; done)) ?_)
    refine sat_fn _ (opRefl0_ok h a b _ hka hkb) rfl ?_
    repeat (first | refine sat_same ?_ | refine sat_impA ?_ | refine sat_need (by first | (decide +kernel) | (simp only [ByteArray.size_append, bszQ, List.size_toArray, List.length_cons, List.length_nil]; omega) | first | exact trivial | omega | exact ini (by omega) (by omega) | (intro hh; simp at hh; exact ini (by omega) (by omega)) | (intro hh; simp at hh ⊢; omega) | (simp at *; omega) | (simp_all; done)) ?_)
    refine sat_done (exS_normal (ev_if (fun c7 => ?_) (fun c7 => ?_)))
    ·
      exact absurd c7 (by decide)
    ·
      refine ev_skip (exS_normal (ev_R tabT [] 1000 ?_))
      refine ev_seq ?_
      refine ev_seq (ev_drawn tabT [] [[], [0], [0, 1], [], [0, 1, 2, 3], [0, 1, 2, 3, 4], [0, 1, 2, 3, 4, 5], [0, 1, 2, 3, 4, 5, 6], [0, 1, 2, 3, 4, 5, 6, 7], [0, 1, 2, 3, 4, 5, 6, 7, 8], [0, 1, 2, 3, 4, 5, 6], [0, 1, 2, 3, 4, 5, 6, 7, 8, 9, 10], [0, 1, 2, 3, 4, 5, 6, 7, 8, 9, 10, 11], [0, 1, 2, 3, 4, 5, 6, 7, 8, 9, 10, 11, 12]] 1100 mixT (by kernel_rfl) rfl ?_)
      refine sat_go ?_
      refine sat_fn _ (opInst0_ok h a hka) rfl ?_
      refine sat_go ?_
      refine sat_fnG _ (fun hg11 => opInst0_ok h b hkb) rfl ?_
      refine sat_go ?_
      refine sat_done (exS_normal (ev_if (fun c10 => ?_) (fun c10 => ?_)))
      ·
        refine ev_region tabT [] 1200 rfl ?_
        refine sat_go ?_
        refine sat_fn _ (opApp8_ok h a b p q) rfl ?_
        refine sat_go ?_
        refine sat_done (exS_normal (ev_seq (ev_R tabT [] 1300 ?_)))
        refine ev_if (fun c12 => ?_) (fun c12 => ?_)
        ·
          exact absurd c12 (by decide)
        ·
          refine ev_skip (exS_normal (ev_R tabT [] 1500 ?_))
          refine ev_R tabT [] 1600 ?_
          refine ev_ret ?_
          exact FinV.ret rfl (SubP.agg (by repeat (first | exact trivial | exact SubP.refl _ | exact SubP.nilSl rfl | refine ⟨?_, ?_⟩)))
      ·
        simp at c10
end Go.Proofs.YtnkjenaanjnihaaGreatDoor
