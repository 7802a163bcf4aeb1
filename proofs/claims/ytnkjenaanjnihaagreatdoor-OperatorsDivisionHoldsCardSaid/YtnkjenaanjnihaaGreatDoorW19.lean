/- Part 19 of the proof. -/
import Derived.Test.YtnkjenaanjnihaaGreatDoorW18
import Derived.Test.YtnkjenaanjnihaaGreatDoorW10


/- Walks by the evaluator: operators of numbers: ratio, number, signed, divide, numbers. -/
namespace Go.Proofs.YtnkjenaanjnihaaGreatDoor
open Go.RowKit
variable {md me : Bool}
theorem nm_n {v : Vl} (p : Qr.Nm v) : v.nn = decide (Qr.nV v < 0) ∧ v.nl = lim (Qr.nV v).natAbs := by
  refine ⟨(congrArg Vl.nn p.e).trans ?_, (congrArg Vl.nl p.e).trans ?_⟩
  · unfold Qr.vQ; split <;> rfl
  · unfold Qr.vQ; split <;> rfl
theorem nm_d3 {v : Vl} (p : Qr.Nm v) (h : v.k = 3) : v.dn = false ∧ v.dl = lim (Qr.dV v) := by
  have h1 : ¬ Qr.dV v = 1 := fun h1 => by
    have hk := congrArg Vl.k p.e
    unfold Qr.vQ at hk
    rw [if_pos h1] at hk
    have hk : v.k = 2 := hk
    omega
  refine ⟨(congrArg Vl.dn p.e).trans ?_, (congrArg Vl.dl p.e).trans ?_⟩
  · unfold Qr.vQ; rw [if_neg h1]
  · unfold Qr.vQ; rw [if_neg h1]
theorem nm_d2 {v : Vl} (p : Qr.Nm v) (h : v.k = 2) : Qr.dV v = 1 := by
  unfold Qr.dV
  rw [if_neg (by omega)]
theorem nm_f2 {v : Vl} (p : Qr.Nm v) (h : v.k = 2) : fV (Qr.nV v) (Qr.dV v) = [.v (.bool v.nn), usD v.nl, .v (.bool false), usD [1]] := by
  unfold fV
  rw [← (nm_n p).1, ← (nm_n p).2, nm_d2 p h, lim_1]
theorem nm_f3 {v : Vl} (p : Qr.Nm v) (h : v.k = 3) : fV (Qr.nV v) (Qr.dV v) = [.v (.bool v.nn), usD v.nl, .v (.bool v.dn), usD v.dl] := by
  unfold fV
  rw [← (nm_n p).1, ← (nm_n p).2, (nm_d3 p h).1, (nm_d3 p h).2]
def nbS (n : Int) (d : Nat) (c : Int) : St := if c = 0 then vlS (Qr.vQ n d) else flS c
theorem lim_is1 {d : Nat} : lim d = [1] ↔ d = 1 := by
  constructor
  · intro h
    have h1 := L_dig d
    rw [h, L_cons, L_nil] at h1
    omega
  · intro h
    rw [h, lim_1]
theorem opQ_yes {z : Int} {d : Nat} (h : Qr.fits z d = true) : Qr.opQ z d = vlS (Qr.vQ (Qr.rN z d) (Qr.rD z d)) := if_pos h
theorem opQ_no {z : Int} {d : Nat} (h : Qr.fits z d = false) : Qr.opQ z d = raS 42 tooB := if_neg (by rw [h]; decide)
theorem nb_red (z : Int) (d : Nat) : nbS (frN z d) (frE z d) (frC z d) = Qr.opQ z d := by
  unfold nbS frN frE frC
  by_cases h : Qr.fits z d = true
  · rw [if_pos h, if_pos h, if_pos h, if_pos rfl, opQ_yes h]
  · rw [if_neg h, if_neg h, if_neg h, opQ_no (by simpa using h)]; rfl
theorem fV_r (b : Bool) (n d : Nat) : fV (Qr.rN (ZI b n) d) (Qr.rD (ZI b n) d) = [.v (.bool (b && decide (0 < ((lim (n / Nat.gcd n d)).length : Int)))), usD (lim (n / Nat.gcd n d)), .v (.bool false), usD (lim (d / Nat.gcd n d))] := by
  unfold fV
  rw [red_neg, Qr.rN_abs, Qr.ZI_abs]
  unfold Qr.rD
  rw [Qr.ZI_abs]
theorem opQ_1 {z : Int} (h : (lim z.natAbs).length ≤ 128) : Qr.opQ z 1 = vlS (nuV z) := by
  have h1 : Qr.rN z 1 = z := by
    unfold Qr.rN
    rw [Nat.gcd_one_right, Nat.div_one, ZI_of]
  have h2 : Qr.rD z 1 = 1 := by
    unfold Qr.rD
    rw [Nat.gcd_one_right]
  have h3 : Qr.fits z 1 = true := by
    unfold Qr.fits
    rw [h1, h2, lim_1, decide_eq_true h]
    rfl
  rw [opQ_yes h3, h1, h2]
  rfl
theorem fdv_le {n m : Int} (h0 : m ≠ 0) : (Int.fdiv n m).natAbs ≤ n.natAbs ∧ (Int.fmod n m).natAbs ≤ m.natAbs := by
  have hy : 0 < m.natAbs := by omega
  obtain ⟨d1, d2⟩ := dm_Z (s := decide (n < 0)) (t := decide (m < 0)) (x := n.natAbs) hy
  rw [ZI_of, ZI_of] at d1 d2
  rw [← d1, ← d2, Qr.ZI_abs, Qr.ZI_abs]
  exact ⟨dmQ_le hy, dmR_lt hy⟩
theorem dint9 {n m : Int} (h0 : m ≠ 0) (hn : (lim n.natAbs).length ≤ 128) : whS (decide (Int.fdiv n m < 0)) (lim (Int.fdiv n m).natAbs) 0 = Qr.opQ (Int.fdiv (n * (1 : Nat)) ((1 : Nat) * m)) 1 := by
  rw [show n * ((1 : Nat) : Int) = n from Int.mul_one n, show ((1 : Nat) : Int) * m = m from Int.one_mul m, opQ_1 (lim_le128 (fdv_le h0).1 hn)]
  rfl
theorem dint10 {n m : Int} (h0 : m ≠ 0) (hm : (lim m.natAbs).length ≤ 128) : whS (decide (Int.fmod n m < 0)) (lim (Int.fmod n m).natAbs) 0 = Qr.opQ (Int.fmod (n * (1 : Nat)) ((1 : Nat) * m)) (1 * 1) := by
  rw [show n * ((1 : Nat) : Int) = n from Int.mul_one n, show ((1 : Nat) : Int) * m = m from Int.one_mul m, Nat.mul_one, opQ_1 (lim_le128 (fdv_le h0).2 hm)]
  rfl
theorem ZI_dm (m : Int) (d : Nat) : ZI (decide (m < 0)) (d * m.natAbs) = d * m := by rw [Nat.mul_comm, ZI_mulN, ZI_of, Int.mul_comm]
theorem ZI_ne (n : Int) (e : Nat) : ZI (decide (n < 0)) (n.natAbs * e) = n * e := by rw [ZI_mulN, ZI_of]
theorem dvq {n m : Int} {d e : Nat} (hy : 0 < d * m.natAbs) : ZI (decide (n < 0) != decide (m < 0)) (dmQ (decide (n < 0)) (decide (m < 0)) (n.natAbs * e) (d * m.natAbs)) = Int.fdiv (n * e) (d * m) ∧ ZI (decide (m < 0)) (dmR (decide (n < 0)) (decide (m < 0)) (n.natAbs * e) (d * m.natAbs)) = Int.fmod (n * e) (d * m) := by
  have h := dm_Z (s := decide (n < 0)) (t := decide (m < 0)) (x := n.natAbs * e) hy
  rw [ZI_dm, ZI_ne] at h
  exact h
theorem opOne_ok  : Fn Tryz.prog 111 [] (.agg [.v (.bool false), usD [1]]) := by
  refine fn_ev tabT Tryz.func111 rfl rfl rfl rfl rfl rfl ?_
  intro w0 s0 mx
  refine ev_R tabT [] 100 ?_
  refine ev_R tabT [] 200 ?_
  refine ev_ret ?_
  exact FinV.ret rfl (SubP.agg ⟨SubP.refl _, SubP.slrSl rfl, trivial⟩)
theorem opRatio_ok (v : Vl) (p : Qr.Nm v) : Fn Tryz.prog 83 [.agg (vlD v)] (.tup [.agg (fV (Qr.nV v) (Qr.dV v)), .v (.bool true)]) := by
  refine fn_ev tabT Tryz.func83 rfl rfl rfl rfl rfl rfl ?_
  intro w0 s0 mx
  refine ev_R tabT [] 100 ?_
  refine ev_seq (ev_R tabT [] 200 ?_)
  refine ev_block (ev_R tabT [] 300 ?_)
  refine ev_if (fun c2 => ?_) (fun c2 => ?_)
  ·
    refine ev_seq (ev_drawn tabT [] [[], [0], [], [0, 1, 2], [0, 1, 2, 3], [0, 1, 2, 3, 4]] 400 mixT (by kernel_rfl) rfl ?_)
    refine sat_go ?_
    refine sat_fn _ (opOne_ok) rfl ?_
    refine sat_go ?_
    refine sat_done (exS_normal (ev_ret (exBl_ret (exS_ret ?_))))
    exact FinV.ret rfl (SubP.tup ⟨SubP.of_eq (by rw [nm_f2 p c2]; rfl), SubP.refl _, trivial⟩)
  ·
    refine ev_R tabT [] 500 ?_
    refine ev_if (fun c4 => ?_) (fun c4 => ?_)
    ·
      refine ev_R tabT [] 600 ?_
      refine ev_ret (exBl_ret (exS_ret ?_))
      exact FinV.ret rfl (SubP.tup ⟨SubP.of_eq (by rw [nm_f3 p c4]; rfl), SubP.refl _, trivial⟩)
    ·
      exact absurd p.k (by omega)
theorem opNumber_ok (n : Int) (d : Nat) (c i : Int) : Fn Tryz.prog 91 [.agg (fV n d), faD c i] (.agg (stD (nbS n d c))) := by
  refine fn_ev tabT Tryz.func91 rfl rfl rfl rfl rfl rfl ?_
  intro w0 s0 mx
  refine ev_R tabT [] 100 ?_
  refine ev_seq ?_
  refine ev_seq (ev_region tabT [] 200 rfl ?_)
  refine sat_go ?_
  refine sat_fn _ (opFailed_ok c i) rfl ?_
  refine sat_go ?_
  refine sat_done (exS_normal (ev_R tabT [] 300 ?_))
  refine ev_if (fun c2 => ?_) (fun c2 => ?_)
  ·
    refine ev_R tabT [] 400 ?_
    refine ev_ret (exS_ret ?_)
    exact FinV.ret rfl (SubP.of_eq (by rw [nbS, if_neg (by simpa using c2)]; rfl))
  ·
    refine ev_skip (exS_normal (ev_seq ?_))
    refine ev_seq (ev_drawn tabT [] [[], [0], [0, 1], [], [3], [0, 1, 2, 3, 4]] 500 mixT (by kernel_rfl) rfl ?_)
    refine sat_go ?_
    refine sat_fn _ (opOne_ok) rfl ?_
    refine sat_go ?_
    refine sat_fn _ (EqualU_ok (lim d) [1]) rfl ?_
    refine sat_go ?_
    refine sat_done (exS_normal (ev_if (fun c4 => ?_) (fun c4 => ?_)))
    ·
      refine ev_seq (ev_region tabT [] 600 rfl ?_)
      refine sat_go ?_
      refine sat_fn _ ((opValue_ok (nuV n)).args ⟨SubP.agg (by repeat (first | exact trivial | exact SubP.refl _ | exact SubP.nilSl rfl | refine ⟨?_, ?_⟩)), trivial⟩) rfl ?_
      refine sat_go ?_
      refine sat_done (exS_normal (ev_ret (exS_ret ?_)))
      exact FinV.ret rfl (SubP.of_eq (by rw [nbS, if_pos (by simpa using c2), Qr.vQ, if_pos (by rw [← lim_is1]; simpa using c4)]; rfl))
    ·
      refine ev_skip (exS_normal ?_)
      refine ev_seq (ev_region tabT [] 700 rfl ?_)
      refine sat_go ?_
      refine sat_fn _ ((opValue_ok ⟨3, decide (n < 0), lim n.natAbs, false, lim d, ByteArray.empty, 0⟩).args ⟨SubP.agg (by repeat (first | exact trivial | exact SubP.refl _ | exact SubP.nilSl rfl | refine ⟨?_, ?_⟩)), trivial⟩) rfl ?_
      refine sat_go ?_
      refine sat_done (exS_normal (ev_ret ?_))
      exact FinV.ret rfl (SubP.of_eq (by rw [nbS, if_pos (by simpa using c2), Qr.vQ, if_neg (by rw [← lim_is1]; simpa using c4)]; rfl))
theorem opSigned_ok (b : Bool) (n d : Nat) (hn : (lim n).length ≤ 300) (hd : (lim d).length ≤ 300) (h0 : 0 < d) : Fn Tryz.prog 120 [.v (.bool b), usD (lim n), usD (lim d)] (.agg (stD (Qr.opQ (ZI b n) d))) := by
  have hg0 : 0 < Nat.gcd n d := Nat.gcd_pos_of_pos_right _ h0
  have hgl := gcd_l (n := n) h0 hd
  refine fn_ev tabT Tryz.func120 rfl rfl rfl rfl rfl rfl ?_
  intro w0 s0 mx
  refine ev_R tabT [] 100 ?_
  refine ev_seq (ev_region tabT [] 200 rfl ?_)
  refine sat_go ?_
  refine sat_fn _ (natGcd_ok n d (by omega) (by omega)) rfl ?_
  refine sat_go ?_
  refine sat_done (exS_normal ?_)
  refine ev_seq (ev_region tabT [] 300 rfl ?_)
  refine sat_go ?_
  refine sat_fn _ (natDivMod_ok n (Nat.gcd n d) (by omega) (by omega) hg0) rfl ?_
  refine sat_go ?_
  refine sat_done (exS_normal ?_)
  refine ev_seq (ev_region tabT [] 400 rfl ?_)
  refine sat_go ?_
  refine sat_fn _ (natDivMod_ok d (Nat.gcd n d) (by omega) (by omega) hg0) rfl ?_
  refine sat_go ?_
  refine sat_done (exS_normal (ev_seq (ev_R tabT [] 500 ?_)))
  refine ev_cond rfl (fun c4 => ?_) (fun c4 => ?_)
  · have hf : Qr.fits (ZI b n) d = false := by rw [red_fits]; by_cases h8 : (lim (n / Nat.gcd n d)).length ≤ 128 <;> by_cases h9 : (lim (d / Nat.gcd n d)).length ≤ 128 <;> simp at c4 ⊢ <;> omega
    refine ev_seq (ev_region tabT [] 600 rfl ?_)
    refine sat_go ?_
    refine sat_fn _ (opLimit_ok) rfl ?_
    refine sat_go ?_
    refine sat_done (exS_normal (ev_ret (exS_ret ?_)))
    rw [opQ_no hf]
    exact FinV.ret rfl (SubP.refl _)
  · have hf : Qr.fits (ZI b n) d = true := by rw [red_fits]; simp at c4 ⊢; omega
    refine ev_skip (exS_normal ?_)
    refine ev_seq (ev_region tabT [] 700 rfl ?_)
    refine sat_go ?_
    refine sat_fn _ ((opNumber_ok (Qr.rN (ZI b n) d) (Qr.rD (ZI b n) d) 0 0).args ⟨SubP.of_eq (by rw [fV_r]; rfl), SubP.refl _, trivial⟩) rfl ?_
    refine sat_go ?_
    refine sat_done (exS_normal (ev_ret ?_))
    rw [opQ_yes hf]
    exact FinV.ret rfl (SubP.refl _)
theorem natDivModZ_ok (a b : Nat) (ha : (lim a).length ≤ 600) (h0 : b = 0) : Fn Tryz.prog 117 [usD (lim a), usD (lim b)] (.tup [usD [], usD [], faD 22 (-2)]) := by
  have hb0 : (lim b).length = 0 := by rw [h0, lim_zero]; rfl
  refine fn_ev tabT Tryz.func117 rfl rfl rfl rfl rfl rfl ?_
  intro w0 s0 mx
  refine ev_R tabT [] 100 ?_
  refine ev_seq ?_
  refine ev_seq (ev_region tabT [] 200 rfl ?_)
  refine sat_go ?_
  refine sat_fn _ (natCheck_ok a b ha (by omega)) rfl ?_
  refine sat_go ?_
  refine sat_done (exS_normal (ev_R tabT [] 300 ?_))
  refine ev_if (fun c2 => ?_) (fun c2 => ?_)
  ·
    exact absurd c2 (by decide)
  ·
    refine ev_skip (exS_normal (ev_seq (ev_R tabT [] 500 ?_)))
    refine ev_if (fun c4 => ?_) (fun c4 => ?_)
    ·
      refine ev_seq (ev_region tabT [] 600 rfl ?_)
      refine sat_go ?_
      refine sat_fn _ (natAt_ok 22 (-2)) rfl ?_
      refine sat_go ?_
      refine sat_done (exS_normal (ev_ret (exS_ret ?_)))
      exact FinV.ret rfl (SubP.tup (by repeat (first | exact trivial | exact SubP.refl _ | exact SubP.nilSl rfl | refine ⟨?_, ?_⟩)))
    ·
      exact absurd c4 (by omega)
theorem intDivModZ_ok (a b : Int) (ha : (lim a.natAbs).length ≤ 128) (h0 : b = 0) : Fn Tryz.prog 114 [.agg (zV a), .agg (zV b)] (.tup [.agg [.v (.bool false), usD []], .agg [.v (.bool false), usD []], faD 22 (-2)]) := by
  have hb : (lim b.natAbs).length ≤ 128 := by rw [h0, show (0 : Int).natAbs = 0 from rfl, lim_zero]; decide
  refine fn_ev tabT Tryz.func114 rfl rfl rfl rfl rfl rfl ?_
  intro w0 s0 mx
  refine ev_R tabT [] 100 ?_
  refine ev_seq ?_
  refine ev_seq (ev_region tabT [] 200 rfl ?_)
  refine sat_go ?_
  refine sat_fn _ ((intCheck_ok [(decide (a < 0), lim a.natAbs), (decide (b < 0), lim b.natAbs)] (zOks ha hb) (by show 2 ≤ 100; omega)).args ⟨SubP.slrSl rfl, trivial⟩) rfl ?_
  refine sat_go ?_
  refine sat_done (exS_normal (ev_R tabT [] 300 ?_))
  refine ev_if (fun c2 => ?_) (fun c2 => ?_)
  ·
    exact absurd c2 (by decide)
  ·
    refine ev_skip (exS_normal ?_)
    refine ev_seq (ev_region tabT [] 500 rfl ?_)
    refine sat_go ?_
    refine sat_fn _ (natDivModZ_ok a.natAbs b.natAbs (by omega) (by omega)) rfl ?_
    refine sat_go ?_
    refine sat_done (exS_normal (ev_seq (ev_R tabT [] 600 ?_)))
    refine ev_if (fun c5 => ?_) (fun c5 => ?_)
    ·
      refine ev_seq (ev_drawn tabT [] [[], [], [], [0], [0, 1, 3], [0, 1, 2, 3, 4]] 700 mixT (by kernel_rfl) rfl ?_)
      refine sat_go ?_
      refine sat_done (exS_normal (ev_ret (exS_ret ?_)))
      exact FinV.ret rfl (SubP.tup (by repeat (first | exact trivial | exact SubP.refl _ | exact SubP.nilSl rfl | refine SubP.agg ?_ | refine ⟨?_, ?_⟩)))
    ·
      exact absurd c5 (by decide)
theorem opDiv9z {n m : Int} {d e : Nat} (w : Bool) (p : Qr.Q n d) (q : Qr.Q m e) (hw : w = true → d = 1 ∧ e = 1) (hz : m = 0) : Fn Tryz.prog 85 [.v (.int .i64 9), .agg (fV n d), .agg (fV m e), .v (.bool w)] (.agg (stD (raS 41 zeroB))) := by
  have hn := p.nl
  have hd := p.dl
  have hm := q.nl
  have he := q.dl
  have hnm : (lim (n.natAbs * m.natAbs)).length ≤ 256 := lim_mulL hn hm
  have hde : (lim (d * e)).length ≤ 256 := lim_mulL hd he
  have hp0 : 0 < d * e := Nat.mul_pos p.d0 q.d0
  have hne : (lim (n.natAbs * e)).length ≤ 256 := lim_mulL hn he
  have hdm : (lim (d * m.natAbs)).length ≤ 256 := lim_mulL hd hm
  have hl0 : (lim m.natAbs).length = 0 := by rw [hz, show (0 : Int).natAbs = 0 from rfl, lim_zero]; rfl
  refine fn_ev tabT Tryz.func85 rfl rfl rfl rfl rfl rfl ?_
  intro w0 s0 mx
  refine ev_R tabT [] 100 ?_
  refine ev_seq (ev_R tabT [] 200 ?_)
  refine ev_if (fun c1 => ?_) (fun c1 => ?_)
  ·
    refine ev_seq (ev_region tabT [] 300 rfl ?_)
    refine sat_go ?_
    refine sat_fn _ (intDivModZ_ok n m hn hz) rfl ?_
    refine sat_go ?_
    refine sat_done (exS_normal (ev_seq (ev_R tabT [] 400 ?_)))
    refine ev_if (fun c3 => ?_) (fun c3 => ?_)
    ·
      exact absurd c3 (by decide)
    ·
      refine ev_skip (exS_normal ?_)
      refine ev_seq (ev_region tabT [] 600 rfl ?_)
      refine sat_go ?_
      refine sat_fn _ (opWhole_ok false [] 22 (-2)) rfl ?_
      refine sat_go ?_
      refine sat_done (exS_normal (ev_ret (exS_ret ?_)))
      exact FinV.ret rfl (SubP.refl _)
  ·
    refine ev_skip (exS_normal (ev_seq (ev_R tabT [] 700 ?_)))
    refine ev_if (fun c6 => ?_) (fun c6 => ?_)
    ·
      refine ev_seq (ev_region tabT [] 800 rfl ?_)
      refine sat_go ?_
      refine sat_fn _ (opRaise_ok 41 zeroB) rfl ?_
      refine sat_go ?_
      refine sat_done (exS_normal (ev_ret (exS_ret ?_)))
      exact FinV.ret rfl (SubP.refl _)
    ·
      exact absurd c6 (by omega)
theorem opDiv9n {n m : Int} {d e : Nat} (w : Bool) (p : Qr.Q n d) (q : Qr.Q m e) (hw : w = true → d = 1 ∧ e = 1) (h0 : m ≠ 0) : Fn Tryz.prog 85 [.v (.int .i64 9), .agg (fV n d), .agg (fV m e), .v (.bool w)] (.agg (stD (Qr.opQ (Int.fdiv (n * e) (d * m)) 1))) := by
  have hn := p.nl
  have hd := p.dl
  have hm := q.nl
  have he := q.dl
  have hnm : (lim (n.natAbs * m.natAbs)).length ≤ 256 := lim_mulL hn hm
  have hde : (lim (d * e)).length ≤ 256 := lim_mulL hd he
  have hp0 : 0 < d * e := Nat.mul_pos p.d0 q.d0
  have hne : (lim (n.natAbs * e)).length ≤ 256 := lim_mulL hn he
  have hdm : (lim (d * m.natAbs)).length ≤ 256 := lim_mulL hd hm
  have hy0 : 0 < (d * m.natAbs) := Nat.mul_pos p.d0 (by omega)
  obtain ⟨d1, d2⟩ := dvq (n := n) (e := e) hy0
  have hl0 : ¬ (lim m.natAbs).length = 0 := fun h9 => by have := len_nposL (n := m.natAbs) (by omega); omega
  have hQ : (lim ((n.natAbs * e) / (d * m.natAbs))).length ≤ 256 := lim_qle hne
  have hQ1 : (lim ((n.natAbs * e) / (d * m.natAbs) + 1)).length ≤ 257 := lim_add_le hQ (by rw [lim_1]; decide)
  have hR0 := Nat.mod_lt (n.natAbs * e) hy0
  have hR : (lim ((n.natAbs * e) % (d * m.natAbs))).length ≤ 256 := Nat.le_trans (lim_len_mono (Nat.le_of_lt hR0)) hdm
  have hR1 : (lim ((d * m.natAbs) - (n.natAbs * e) % (d * m.natAbs))).length ≤ 256 := Nat.le_trans (lim_len_mono (Nat.sub_le _ _)) hdm
  refine fn_ev tabT Tryz.func85 rfl rfl rfl rfl rfl rfl ?_
  intro w0 s0 mx
  refine ev_R tabT [] 100 ?_
  refine ev_seq (ev_R tabT [] 200 ?_)
  refine ev_if (fun c1 => ?_) (fun c1 => ?_)
  ·
    obtain ⟨rfl, rfl⟩ := hw c1
    refine ev_seq (ev_region tabT [] 300 rfl ?_)
    refine sat_go ?_
    refine sat_fn _ (intDivMod_ok n m hn hm h0) rfl ?_
    refine sat_go ?_
    refine sat_done (exS_normal (ev_seq (ev_R tabT [] 400 ?_)))
    refine ev_if (fun c3 => ?_) (fun c3 => ?_)
    ·
      exact absurd c3 (by decide)
    ·
      refine ev_skip (exS_normal ?_)
      refine ev_seq (ev_region tabT [] 600 rfl ?_)
      refine sat_go ?_
      refine sat_fn _ (opWhole_ok _ _ 0 0) rfl ?_
      refine sat_go ?_
      refine sat_done (exS_normal (ev_ret (exS_ret ?_)))
      exact FinV.ret rfl (SubP.of_eq (congrArg (fun s => D.agg (stD s)) (dint9 h0 hn)))
  ·
    refine ev_skip (exS_normal (ev_seq (ev_R tabT [] 700 ?_)))
    refine ev_if (fun c6 => ?_) (fun c6 => ?_)
    ·
      exact absurd c6 (by omega)
    ·
      refine ev_skip (exS_normal ?_)
      refine ev_seq (ev_region tabT [] 900 rfl ?_)
      refine sat_go ?_
      refine sat_fn _ (natMul_ok n.natAbs e (by omega) (by omega) (by omega)) rfl ?_
      refine sat_go ?_
      refine sat_done (exS_normal ?_)
      refine ev_seq (ev_region tabT [] 1000 rfl ?_)
      refine sat_go ?_
      refine sat_fn _ (natMul_ok d m.natAbs (by omega) (by omega) (by omega)) rfl ?_
      refine sat_go ?_
      refine sat_done (exS_normal ?_)
      refine ev_seq (ev_region tabT [] 1100 rfl ?_)
      refine sat_go ?_
      refine sat_fn _ (natDivMod_ok (n.natAbs * e) (d * m.natAbs) (by omega) (by omega) hy0) rfl ?_
      refine sat_go ?_
      refine sat_done (exS_normal (ev_seq (ev_R tabT [] 1200 ?_)))
      refine ev_if (fun c11 => ?_) (fun c11 => ?_)
      ·
        obtain ⟨hqe, hre⟩ := dm_T c11
        refine ev_seq (ev_region tabT [] 1300 rfl ?_)
        refine sat_go ?_
        refine sat_fn _ ((natAdd_ok _ 1 (by omega) (by rw [lim_1]; decide) (by omega)).args ⟨SubP.refl _, SubP.slrSl (by rw [lim_1]; rfl), trivial⟩) rfl ?_
        refine sat_go ?_
        refine sat_done (exS_normal ?_)
        refine ev_region tabT [] 1400 rfl ?_
        refine sat_go ?_
        refine sat_fn _ (natSub_ok _ _ (by omega) (by omega) (Nat.le_of_lt hR0)) rfl ?_
        refine sat_go ?_
        refine sat_done (exS_normal (ev_seq (ev_R tabT [] 1500 ?_)))
        refine ev_if (fun c14 => ?_) (fun c14 => ?_)
        ·
          refine ev_seq (ev_region tabT [] 1600 rfl ?_)
          refine sat_go ?_
          refine sat_fn _ ((opSigned_ok ((decide (n < 0)) != (decide (m < 0))) ((n.natAbs * e) / (d * m.natAbs) + 1) 1 (by omega) (by rw [lim_1]; decide) (by decide)).args ⟨SubP.refl _, SubP.refl _, SubP.slrSl (by rw [lim_1]; rfl), trivial⟩) rfl ?_
          refine sat_go ?_
          refine sat_done (exS_normal (ev_ret (exS_ret ?_)))
          exact FinV.ret rfl (SubP.of_eq (by rw [← d1, hqe]; rfl))
        ·
          exact absurd c14 (by decide)
      ·
        refine ev_skip (exS_normal (ev_seq (ev_R tabT [] 1500 ?_)))
        refine ev_if (fun c14 => ?_) (fun c14 => ?_)
        ·
          refine ev_seq (ev_region tabT [] 1600 rfl ?_)
          refine sat_go ?_
          refine sat_fn _ ((opSigned_ok ((decide (n < 0)) != (decide (m < 0))) ((n.natAbs * e) / (d * m.natAbs)) 1 (by omega) (by rw [lim_1]; decide) (by decide)).args ⟨SubP.refl _, SubP.refl _, SubP.slrSl (by rw [lim_1]; rfl), trivial⟩) rfl ?_
          refine sat_go ?_
          refine sat_done (exS_normal (ev_ret (exS_ret ?_)))
          obtain ⟨hqe, hre⟩ := dm_F c11
          exact FinV.ret rfl (SubP.of_eq (by rw [← d1, hqe]; rfl))
        ·
          exact absurd c14 (by decide)
theorem opDiv9_ok {n m : Int} {d e : Nat} (w : Bool) (p : Qr.Q n d) (q : Qr.Q m e) (hw : w = true → d = 1 ∧ e = 1) : Fn Tryz.prog 85 [.v (.int .i64 9), .agg (fV n d), .agg (fV m e), .v (.bool w)] (.agg (stD (if m = 0 then raS 41 zeroB else (Qr.opQ (Int.fdiv (n * e) (d * m)) 1)))) := by
  by_cases h : m = 0
  · rw [if_pos h]; exact opDiv9z w p q hw h
  · rw [if_neg h]; exact opDiv9n w p q hw h
theorem opDiv10z {n m : Int} {d e : Nat} (w : Bool) (p : Qr.Q n d) (q : Qr.Q m e) (hw : w = true → d = 1 ∧ e = 1) (hz : m = 0) : Fn Tryz.prog 85 [.v (.int .i64 10), .agg (fV n d), .agg (fV m e), .v (.bool w)] (.agg (stD (raS 41 zeroB))) := by
  have hn := p.nl
  have hd := p.dl
  have hm := q.nl
  have he := q.dl
  have hnm : (lim (n.natAbs * m.natAbs)).length ≤ 256 := lim_mulL hn hm
  have hde : (lim (d * e)).length ≤ 256 := lim_mulL hd he
  have hp0 : 0 < d * e := Nat.mul_pos p.d0 q.d0
  have hne : (lim (n.natAbs * e)).length ≤ 256 := lim_mulL hn he
  have hdm : (lim (d * m.natAbs)).length ≤ 256 := lim_mulL hd hm
  have hl0 : (lim m.natAbs).length = 0 := by rw [hz, show (0 : Int).natAbs = 0 from rfl, lim_zero]; rfl
  refine fn_ev tabT Tryz.func85 rfl rfl rfl rfl rfl rfl ?_
  intro w0 s0 mx
  refine ev_R tabT [] 100 ?_
  refine ev_seq (ev_R tabT [] 200 ?_)
  refine ev_if (fun c1 => ?_) (fun c1 => ?_)
  ·
    refine ev_seq (ev_region tabT [] 300 rfl ?_)
    refine sat_go ?_
    refine sat_fn _ (intDivModZ_ok n m hn hz) rfl ?_
    refine sat_go ?_
    refine sat_done (exS_normal (ev_seq (ev_R tabT [] 400 ?_)))
    refine ev_if (fun c3 => ?_) (fun c3 => ?_)
    ·
      refine ev_Q tabT [] 500 ?_
      refine exS_normal ?_
      refine ev_seq (ev_region tabT [] 600 rfl ?_)
      refine sat_go ?_
      refine sat_fn _ (opWhole_ok false [] 22 (-2)) rfl ?_
      refine sat_go ?_
      refine sat_done (exS_normal (ev_ret (exS_ret ?_)))
      exact FinV.ret rfl (SubP.refl _)
    ·
      exact absurd c3 (by decide)
  ·
    refine ev_skip (exS_normal (ev_seq (ev_R tabT [] 700 ?_)))
    refine ev_if (fun c6 => ?_) (fun c6 => ?_)
    ·
      refine ev_seq (ev_region tabT [] 800 rfl ?_)
      refine sat_go ?_
      refine sat_fn _ (opRaise_ok 41 zeroB) rfl ?_
      refine sat_go ?_
      refine sat_done (exS_normal (ev_ret (exS_ret ?_)))
      exact FinV.ret rfl (SubP.refl _)
    ·
      exact absurd c6 (by omega)
theorem opDiv10n {n m : Int} {d e : Nat} (w : Bool) (p : Qr.Q n d) (q : Qr.Q m e) (hw : w = true → d = 1 ∧ e = 1) (h0 : m ≠ 0) : Fn Tryz.prog 85 [.v (.int .i64 10), .agg (fV n d), .agg (fV m e), .v (.bool w)] (.agg (stD (Qr.opQ (Int.fmod (n * e) (d * m)) (d * e)))) := by
  have hn := p.nl
  have hd := p.dl
  have hm := q.nl
  have he := q.dl
  have hnm : (lim (n.natAbs * m.natAbs)).length ≤ 256 := lim_mulL hn hm
  have hde : (lim (d * e)).length ≤ 256 := lim_mulL hd he
  have hp0 : 0 < d * e := Nat.mul_pos p.d0 q.d0
  have hne : (lim (n.natAbs * e)).length ≤ 256 := lim_mulL hn he
  have hdm : (lim (d * m.natAbs)).length ≤ 256 := lim_mulL hd hm
  have hy0 : 0 < (d * m.natAbs) := Nat.mul_pos p.d0 (by omega)
  obtain ⟨d1, d2⟩ := dvq (n := n) (e := e) hy0
  have hl0 : ¬ (lim m.natAbs).length = 0 := fun h9 => by have := len_nposL (n := m.natAbs) (by omega); omega
  have hQ : (lim ((n.natAbs * e) / (d * m.natAbs))).length ≤ 256 := lim_qle hne
  have hQ1 : (lim ((n.natAbs * e) / (d * m.natAbs) + 1)).length ≤ 257 := lim_add_le hQ (by rw [lim_1]; decide)
  have hR0 := Nat.mod_lt (n.natAbs * e) hy0
  have hR : (lim ((n.natAbs * e) % (d * m.natAbs))).length ≤ 256 := Nat.le_trans (lim_len_mono (Nat.le_of_lt hR0)) hdm
  have hR1 : (lim ((d * m.natAbs) - (n.natAbs * e) % (d * m.natAbs))).length ≤ 256 := Nat.le_trans (lim_len_mono (Nat.sub_le _ _)) hdm
  refine fn_ev tabT Tryz.func85 rfl rfl rfl rfl rfl rfl ?_
  intro w0 s0 mx
  refine ev_R tabT [] 100 ?_
  refine ev_seq (ev_R tabT [] 200 ?_)
  refine ev_if (fun c1 => ?_) (fun c1 => ?_)
  ·
    obtain ⟨rfl, rfl⟩ := hw c1
    refine ev_seq (ev_region tabT [] 300 rfl ?_)
    refine sat_go ?_
    refine sat_fn _ (intDivMod_ok n m hn hm h0) rfl ?_
    refine sat_go ?_
    refine sat_done (exS_normal (ev_seq (ev_R tabT [] 400 ?_)))
    refine ev_if (fun c3 => ?_) (fun c3 => ?_)
    ·
      refine ev_Q tabT [] 500 ?_
      refine exS_normal ?_
      refine ev_seq (ev_region tabT [] 600 rfl ?_)
      refine sat_go ?_
      refine sat_fn _ (opWhole_ok _ _ 0 0) rfl ?_
      refine sat_go ?_
      refine sat_done (exS_normal (ev_ret (exS_ret ?_)))
      exact FinV.ret rfl (SubP.of_eq (congrArg (fun s => D.agg (stD s)) (dint10 h0 hm)))
    ·
      exact absurd c3 (by decide)
  ·
    refine ev_skip (exS_normal (ev_seq (ev_R tabT [] 700 ?_)))
    refine ev_if (fun c6 => ?_) (fun c6 => ?_)
    ·
      exact absurd c6 (by omega)
    ·
      refine ev_skip (exS_normal ?_)
      refine ev_seq (ev_region tabT [] 900 rfl ?_)
      refine sat_go ?_
      refine sat_fn _ (natMul_ok n.natAbs e (by omega) (by omega) (by omega)) rfl ?_
      refine sat_go ?_
      refine sat_done (exS_normal ?_)
      refine ev_seq (ev_region tabT [] 1000 rfl ?_)
      refine sat_go ?_
      refine sat_fn _ (natMul_ok d m.natAbs (by omega) (by omega) (by omega)) rfl ?_
      refine sat_go ?_
      refine sat_done (exS_normal ?_)
      refine ev_seq (ev_region tabT [] 1100 rfl ?_)
      refine sat_go ?_
      refine sat_fn _ (natDivMod_ok (n.natAbs * e) (d * m.natAbs) (by omega) (by omega) hy0) rfl ?_
      refine sat_go ?_
      refine sat_done (exS_normal (ev_seq (ev_R tabT [] 1200 ?_)))
      refine ev_if (fun c11 => ?_) (fun c11 => ?_)
      ·
        obtain ⟨hqe, hre⟩ := dm_T c11
        refine ev_seq (ev_region tabT [] 1300 rfl ?_)
        refine sat_go ?_
        refine sat_fn _ ((natAdd_ok _ 1 (by omega) (by rw [lim_1]; decide) (by omega)).args ⟨SubP.refl _, SubP.slrSl (by rw [lim_1]; rfl), trivial⟩) rfl ?_
        refine sat_go ?_
        refine sat_done (exS_normal ?_)
        refine ev_region tabT [] 1400 rfl ?_
        refine sat_go ?_
        refine sat_fn _ (natSub_ok _ _ (by omega) (by omega) (Nat.le_of_lt hR0)) rfl ?_
        refine sat_go ?_
        refine sat_done (exS_normal (ev_seq (ev_R tabT [] 1500 ?_)))
        refine ev_if (fun c14 => ?_) (fun c14 => ?_)
        ·
          exact absurd c14 (by decide)
        ·
          refine ev_skip (exS_normal ?_)
          refine ev_seq (ev_region tabT [] 1700 rfl ?_)
          refine sat_go ?_
          refine sat_fn _ (natMul_ok d e (by omega) (by omega) (by omega)) rfl ?_
          refine sat_go ?_
          refine sat_done (exS_normal ?_)
          refine ev_seq (ev_region tabT [] 1800 rfl ?_)
          refine sat_go ?_
          refine sat_fn _ (opSigned_ok (decide (m < 0)) ((d * m.natAbs) - (n.natAbs * e) % (d * m.natAbs)) (d * e) (by omega) (by omega) hp0) rfl ?_
          refine sat_go ?_
          refine sat_done (exS_normal (ev_ret ?_))
          exact FinV.ret rfl (SubP.of_eq (by rw [← d2, hre]; rfl))
      ·
        refine ev_skip (exS_normal (ev_seq (ev_R tabT [] 1500 ?_)))
        refine ev_if (fun c14 => ?_) (fun c14 => ?_)
        ·
          exact absurd c14 (by decide)
        ·
          refine ev_skip (exS_normal ?_)
          refine ev_seq (ev_region tabT [] 1700 rfl ?_)
          refine sat_go ?_
          refine sat_fn _ (natMul_ok d e (by omega) (by omega) (by omega)) rfl ?_
          refine sat_go ?_
          refine sat_done (exS_normal ?_)
          refine ev_seq (ev_region tabT [] 1800 rfl ?_)
          refine sat_go ?_
          refine sat_fn _ (opSigned_ok (decide (m < 0)) ((n.natAbs * e) % (d * m.natAbs)) (d * e) (by omega) (by omega) hp0) rfl ?_
          refine sat_go ?_
          refine sat_done (exS_normal (ev_ret ?_))
          obtain ⟨hqe, hre⟩ := dm_F c11
          exact FinV.ret rfl (SubP.of_eq (by rw [← d2, hre]; rfl))
theorem opDiv10_ok {n m : Int} {d e : Nat} (w : Bool) (p : Qr.Q n d) (q : Qr.Q m e) (hw : w = true → d = 1 ∧ e = 1) : Fn Tryz.prog 85 [.v (.int .i64 10), .agg (fV n d), .agg (fV m e), .v (.bool w)] (.agg (stD (if m = 0 then raS 41 zeroB else (Qr.opQ (Int.fmod (n * e) (d * m)) (d * e))))) := by
  by_cases h : m = 0
  · rw [if_pos h]; exact opDiv10z w p q hw h
  · rw [if_neg h]; exact opDiv10n w p q hw h
theorem opNum5_ok (a b : Vl) (p : Qr.Nm a) (q : Qr.Nm b) : Fn Tryz.prog 66 [.v (.int .i64 5), .agg (vlD a), .agg (vlD b)] (.tup [.agg (stD (Qr.addS a b)), .v (.bool true)]) := by
  refine fn_ev tabT Tryz.func66 rfl rfl rfl rfl rfl rfl ?_
  intro w0 s0 mx
  refine ev_R tabT [] 100 ?_
  refine ev_seq (ev_region tabT [] 200 rfl ?_)
  refine sat_go ?_
  refine sat_fn _ (opRatio_ok a p) rfl ?_
  refine sat_go ?_
  refine sat_done (exS_normal ?_)
  refine ev_seq (ev_region tabT [] 300 rfl ?_)
  refine sat_go ?_
  refine sat_fn _ (opRatio_ok b q) rfl ?_
  refine sat_go ?_
  refine sat_done (exS_normal (ev_seq (ev_R tabT [] 400 ?_)))
  refine ev_if (fun c3 => ?_) (fun c3 => ?_)
  ·
    exact absurd c3 (by decide)
  ·
    refine ev_skip (exS_normal (ev_R tabT [] 600 ?_))
    refine ev_seq (ev_R tabT [] 700 ?_)
    refine ev_block (ev_R tabT [] 800 ?_)
    refine ev_if (fun c7 => ?_) (fun c7 => ?_)
    ·
      exact absurd c7 (by decide)
    ·
      refine ev_seq (ev_R tabT [] 1200 ?_)
      refine ev_if (fun c11 => ?_) (fun c11 => ?_)
      ·
        exact absurd c11 (by decide)
      ·
        refine ev_Q tabT [] 1300 ?_
        refine exS_normal (ev_if (fun c12 => ?_) (fun c12 => ?_))
        ·
          exact absurd c12 (by decide)
        ·
          refine ev_seq (ev_R tabT [] 1500 ?_)
          refine ev_if (fun c14 => ?_) (fun c14 => ?_)
          ·
            exact absurd c14 (by decide)
          ·
            refine ev_R tabT [] 1600 ?_
            refine ev_if (fun c15 => ?_) (fun c15 => ?_)
            ·
              exact absurd c15 (by decide)
            ·
              refine ev_R tabT [] 1700 ?_
              refine ev_if (fun c16 => ?_) (fun c16 => ?_)
              ·
                exact absurd c16 (by decide)
              ·
                refine ev_R tabT [] 1800 ?_
                refine ev_if (fun c17 => ?_) (fun c17 => ?_)
                ·
                  exact absurd c17 (by decide)
                ·
                  refine ev_Q tabT [] 1900 ?_
                  refine exS_normal (ev_if (fun c18 => ?_) (fun c18 => ?_))
                  ·
                    exact absurd c18 (by decide)
                  ·
                    refine ev_skip (exBl_normal (exS_normal ?_))
                    refine ev_seq (ev_region tabT [] 2300 rfl ?_)
                    refine sat_go ?_
                    refine sat_pick [.clo 87 [], .v (.bool true)] ⟨SubP.fn0, rfl⟩ ?_
                    refine sat_go ?_
                    refine sat_done (exS_normal ?_)
                    refine ev_seq (ev_region tabT [] 2400 rfl ?_)
                    refine sat_go ?_
                    refine sat_fn _ (ratAdd_ok p.q q.q) rfl ?_
                    refine sat_go ?_
                    refine sat_fn _ (opNumber_ok _ _ _ _) rfl ?_
                    refine sat_go ?_
                    refine sat_done (exS_normal (ev_ret ?_))
                    exact FinV.ret rfl (SubP.of_eq (by rw [nb_red]; rfl))
theorem opNum7_ok (a b : Vl) (p : Qr.Nm a) (q : Qr.Nm b) : Fn Tryz.prog 66 [.v (.int .i64 7), .agg (vlD a), .agg (vlD b)] (.tup [.agg (stD (Qr.mulS a b)), .v (.bool true)]) := by
  refine fn_ev tabT Tryz.func66 rfl rfl rfl rfl rfl rfl ?_
  intro w0 s0 mx
  refine ev_R tabT [] 100 ?_
  refine ev_seq (ev_region tabT [] 200 rfl ?_)
  refine sat_go ?_
  refine sat_fn _ (opRatio_ok a p) rfl ?_
  refine sat_go ?_
  refine sat_done (exS_normal ?_)
  refine ev_seq (ev_region tabT [] 300 rfl ?_)
  refine sat_go ?_
  refine sat_fn _ (opRatio_ok b q) rfl ?_
  refine sat_go ?_
  refine sat_done (exS_normal (ev_seq (ev_R tabT [] 400 ?_)))
  refine ev_if (fun c3 => ?_) (fun c3 => ?_)
  ·
    exact absurd c3 (by decide)
  ·
    refine ev_skip (exS_normal (ev_R tabT [] 600 ?_))
    refine ev_seq (ev_R tabT [] 700 ?_)
    refine ev_block (ev_R tabT [] 800 ?_)
    refine ev_if (fun c7 => ?_) (fun c7 => ?_)
    ·
      exact absurd c7 (by decide)
    ·
      refine ev_seq (ev_R tabT [] 1200 ?_)
      refine ev_if (fun c11 => ?_) (fun c11 => ?_)
      ·
        exact absurd c11 (by decide)
      ·
        refine ev_Q tabT [] 1300 ?_
        refine exS_normal (ev_if (fun c12 => ?_) (fun c12 => ?_))
        ·
          exact absurd c12 (by decide)
        ·
          refine ev_seq (ev_R tabT [] 1500 ?_)
          refine ev_if (fun c14 => ?_) (fun c14 => ?_)
          ·
            exact absurd c14 (by decide)
          ·
            refine ev_R tabT [] 1600 ?_
            refine ev_if (fun c15 => ?_) (fun c15 => ?_)
            ·
              exact absurd c15 (by decide)
            ·
              refine ev_R tabT [] 1700 ?_
              refine ev_if (fun c16 => ?_) (fun c16 => ?_)
              ·
                exact absurd c16 (by decide)
              ·
                refine ev_R tabT [] 1800 ?_
                refine ev_if (fun c17 => ?_) (fun c17 => ?_)
                ·
                  exact absurd c17 (by decide)
                ·
                  refine ev_Q tabT [] 1900 ?_
                  refine exS_normal (ev_if (fun c18 => ?_) (fun c18 => ?_))
                  ·
                    exact absurd c18 (by decide)
                  ·
                    refine ev_skip (exBl_normal (exS_normal ?_))
                    refine ev_seq (ev_region tabT [] 2300 rfl ?_)
                    refine sat_go ?_
                    refine sat_pick [.clo 89 [], .v (.bool true)] ⟨SubP.fn0, rfl⟩ ?_
                    refine sat_go ?_
                    refine sat_done (exS_normal ?_)
                    refine ev_seq (ev_region tabT [] 2400 rfl ?_)
                    refine sat_go ?_
                    refine sat_fn _ (ratMul_ok p.q q.q) rfl ?_
                    refine sat_go ?_
                    refine sat_fn _ (opNumber_ok _ _ _ _) rfl ?_
                    refine sat_go ?_
                    refine sat_done (exS_normal (ev_ret ?_))
                    exact FinV.ret rfl (SubP.of_eq (by rw [nb_red]; rfl))
theorem opNum9_ok (a b : Vl) (p : Qr.Nm a) (q : Qr.Nm b) : Fn Tryz.prog 66 [.v (.int .i64 9), .agg (vlD a), .agg (vlD b)] (.tup [.agg (stD (Qr.flS a b)), .v (.bool true)]) := by
  refine fn_ev tabT Tryz.func66 rfl rfl rfl rfl rfl rfl ?_
  intro w0 s0 mx
  refine ev_R tabT [] 100 ?_
  refine ev_seq (ev_region tabT [] 200 rfl ?_)
  refine sat_go ?_
  refine sat_fn _ (opRatio_ok a p) rfl ?_
  refine sat_go ?_
  refine sat_done (exS_normal ?_)
  refine ev_seq (ev_region tabT [] 300 rfl ?_)
  refine sat_go ?_
  refine sat_fn _ (opRatio_ok b q) rfl ?_
  refine sat_go ?_
  refine sat_done (exS_normal (ev_seq (ev_R tabT [] 400 ?_)))
  refine ev_if (fun c3 => ?_) (fun c3 => ?_)
  ·
    exact absurd c3 (by decide)
  ·
    refine ev_skip (exS_normal (ev_R tabT [] 600 ?_))
    refine ev_seq (ev_R tabT [] 700 ?_)
    refine ev_block (ev_R tabT [] 800 ?_)
    refine ev_if (fun c7 => ?_) (fun c7 => ?_)
    ·
      exact absurd c7 (by decide)
    ·
      refine ev_seq (ev_R tabT [] 1200 ?_)
      refine ev_if (fun c11 => ?_) (fun c11 => ?_)
      ·
        refine ev_skip (exS_normal (ev_if (fun c11x => ?_) (fun c11x => ?_)))
        ·
          refine ev_seq (ev_region tabT [] 1400 rfl ?_)
          refine sat_go ?_
          refine sat_fn _ (opDiv9_ok _ p.q q.q (fun hh => by simp at hh; exact ⟨nm_d2 p hh.1, nm_d2 q hh.2⟩)) rfl ?_
          refine sat_go ?_
          refine sat_done (exS_normal (ev_ret (exBl_ret (exS_ret ?_))))
          exact FinV.ret rfl (SubP.refl _)
        ·
          simp_all
      ·
        exact absurd c11 (by decide)
theorem opNum10_ok (a b : Vl) (p : Qr.Nm a) (q : Qr.Nm b) : Fn Tryz.prog 66 [.v (.int .i64 10), .agg (vlD a), .agg (vlD b)] (.tup [.agg (stD (Qr.mdS a b)), .v (.bool true)]) := by
  refine fn_ev tabT Tryz.func66 rfl rfl rfl rfl rfl rfl ?_
  intro w0 s0 mx
  refine ev_R tabT [] 100 ?_
  refine ev_seq (ev_region tabT [] 200 rfl ?_)
  refine sat_go ?_
  refine sat_fn _ (opRatio_ok a p) rfl ?_
  refine sat_go ?_
  refine sat_done (exS_normal ?_)
  refine ev_seq (ev_region tabT [] 300 rfl ?_)
  refine sat_go ?_
  refine sat_fn _ (opRatio_ok b q) rfl ?_
  refine sat_go ?_
  refine sat_done (exS_normal (ev_seq (ev_R tabT [] 400 ?_)))
  refine ev_if (fun c3 => ?_) (fun c3 => ?_)
  ·
    exact absurd c3 (by decide)
  ·
    refine ev_skip (exS_normal (ev_R tabT [] 600 ?_))
    refine ev_seq (ev_R tabT [] 700 ?_)
    refine ev_block (ev_R tabT [] 800 ?_)
    refine ev_if (fun c7 => ?_) (fun c7 => ?_)
    ·
      exact absurd c7 (by decide)
    ·
      refine ev_seq (ev_R tabT [] 1200 ?_)
      refine ev_if (fun c11 => ?_) (fun c11 => ?_)
      ·
        exact absurd c11 (by decide)
      ·
        refine ev_Q tabT [] 1300 ?_
        refine exS_normal (ev_if (fun c12 => ?_) (fun c12 => ?_))
        ·
          refine ev_seq (ev_region tabT [] 1400 rfl ?_)
          refine sat_go ?_
          refine sat_fn _ (opDiv10_ok _ p.q q.q (fun hh => by simp at hh; exact ⟨nm_d2 p hh.1, nm_d2 q hh.2⟩)) rfl ?_
          refine sat_go ?_
          refine sat_done (exS_normal (ev_ret (exBl_ret (exS_ret ?_))))
          exact FinV.ret rfl (SubP.refl _)
        ·
          exact absurd c12 (by decide)
end Go.Proofs.YtnkjenaanjnihaaGreatDoor
