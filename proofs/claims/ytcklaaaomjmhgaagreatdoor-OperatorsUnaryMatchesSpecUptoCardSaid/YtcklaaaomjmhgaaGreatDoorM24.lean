/- Part 24 of the proof. -/
import Derived.Test.YtcklaaaomjmhgaaGreatDoorM22
import Derived.Test.YtcklaaaomjmhgaaGreatDoorM23


/- Walks by the evaluator: integers of the program. -/
namespace Go.Proofs.YtcklaaaomjmhgaaGreatDoor
open Go.RowKit
variable {md me : Bool}
def iV (x : Bool × List Nat) : List D := [.v (.bool x.1), usD x.2]
def faD (c i : Int) : D := .agg [.v (.int .i64 c), .v (.int .i64 i)]
def sgB (b : Bool) (l : List Nat) : Bool := if l.length ≤ 128 then b && decide ((0 : Int) < (l.length : Nat)) else false
def sgL (l : List Nat) : List Nat := if l.length ≤ 128 then l else []
def sgC (l : List Nat) : Int := if l.length ≤ 128 then 0 else 14
def sgI (l : List Nat) : Int := if l.length ≤ 128 then 0 else -1
def sgD (b : Bool) (l : List Nat) : D := .tup [.agg (iV (sgB b l, sgL l)), faD (sgC l) (sgI l)]
theorem sgD_le {b : Bool} {l : List Nat} (h : l.length ≤ 128) : D.tup [.agg (iV (b && decide ((0 : Int) < (l.length : Nat)), l)), faD 0 0] = sgD b l := by rw [sgD, sgB, sgL, sgC, sgI, if_pos h, if_pos h, if_pos h, if_pos h]
theorem sgD_gt {b : Bool} {l : List Nat} (h : ¬ l.length ≤ 128) : SubP (D.tup [.agg [.v (.bool false), .v (.slice none 0 0)], faD 14 (-1)]) (sgD b l) := by
  have e : D.tup [.agg (iV (false, [])), faD 14 (-1)] = sgD b l := by rw [sgD, sgB, sgL, sgC, sgI, if_neg h, if_neg h, if_neg h, if_neg h]
  rw [← e]
  exact SubP.tup ⟨SubP.agg ⟨SubP.refl _, SubP.nilSl rfl, trivial⟩, SubP.refl _, trivial⟩
def limN : Nat → Nat → List Nat
  | 0, _ => []
  | n + 1, v => v % 4294967296 :: limN n (v / 4294967296)
theorem limN_len : ∀ n v, (limN n v).length = n
  | 0, _ => rfl
  | n + 1, v => by rw [limN, List.length_cons, limN_len n]
theorem limN_Lg : ∀ n v, Lg (limN n v)
  | 0, _ => Lg.nil
  | n + 1, v => fun x hx => by
    rw [limN] at hx
    rcases List.mem_cons.1 hx with rfl | hx
    · exact Nat.mod_lt _ (by decide)
    · exact limN_Lg n _ x hx
theorem limN_V : ∀ {l : List Nat}, Lg l → limN l.length (VL l) = l
  | [], _ => rfl
  | d :: l, h => by
    have h1 := h d List.mem_cons_self
    rw [L_cons, List.length_cons, limN, show (d + 4294967296 * VL l) % 4294967296 = d by omega, show (d + 4294967296 * VL l) / 4294967296 = VL l by omega, limN_V fun x hx => h x (List.mem_cons_of_mem _ hx)]
theorem limN_eq {l : List Nat} {n v : Nat} (h : Lg l) (h1 : l.length = n) (h2 : VL l = v) : l = limN n v := by rw [← h1, ← h2, limN_V h]
theorem V_limN {n v : Nat} (h : v < 4294967296 ^ n) : VL (limN n v) = v := by
  induction n generalizing v with
  | zero => simp at h; subst h; rfl
  | succ n ih =>
    rw [limN, L_cons, ih (by rw [Nat.pow_succ] at h; omega)]
    omega
def padL (l : List Nat) (n : Nat) : List Nat := l ++ List.replicate (n - l.length) 0
theorem padL_len {l : List Nat} {n : Nat} (h : l.length ≤ n) : (padL l n).length = n := by rw [padL, List.length_append, List.length_replicate]; omega
theorem Lg_app {l r : List Nat} (h1 : Lg l) (h2 : Lg r) : Lg (l ++ r) := fun x hx => (List.mem_append.1 hx).elim (h1 x) (h2 x)
theorem padL_Lg {l : List Nat} {n : Nat} (h : Lg l) : Lg (padL l n) := Lg_app h fun x hx => by rw [List.eq_of_mem_replicate hx]; omega
theorem padL_V (l : List Nat) (n : Nat) : VL (padL l n) = VL l := by rw [padL, L_append, L_zeros]; omega
theorem not_u32 {x : Nat} (h : x < 4294967296) : bNot .u32 (x : Int) = ((4294967295 - x : Nat) : Int) := by
  unfold bNot bXor
  have h2 : (BitVec.ofInt IntKind.u32.bits (if IntKind.u32.signed = true then -1 else IntKind.u32.max) ^^^ BitVec.ofInt IntKind.u32.bits (x : Int)).toNat = 4294967295 - x := by
    show (BitVec.ofInt 32 4294967295 ^^^ BitVec.ofInt 32 (x : Int)).toNat = _
    rw [show BitVec.ofInt 32 4294967295 = BitVec.allOnes 32 by decide, BitVec.ofInt_natCast, BitVec.allOnes_xor, BitVec.toNat_not, BitVec.toNat_ofNat, Nat.mod_eq_of_lt h]
  rw [h2]
  simp only [IntKind.wrap, IntKind.signed, IntKind.bits, Bool.false_and, Bool.false_eq_true, if_false]
  omega
theorem fdiv_pow {s : Nat} {p : Int} {q : Nat} (h : p = (q : Int)) : Int.fdiv (s : Int) p = ((s / q : Nat) : Int) := by
  subst h
  rw [Int.fdiv_eq_ediv_of_nonneg _ (by omega)]; rfl
theorem pad_rows {l : List Nat} {n : Nat} (h : l.length ≤ n) : (MR.cpy (.map (List.replicate n ()) (fun _ => litS [.int .u32 0]) ()) (l.map uD)).rows = (MR.map (padL l n) uD 0).rows := by
  simp only [MR.rows, List.map_replicate, List.length_map, List.drop_replicate, padL, List.map_append]
  rfl
def tcS (b : Bool) (l : List Nat) (n : Nat) : List Nat := limN n (if b then 4294967296 ^ n - VL l else VL l)
theorem tcS_F {l : List Nat} {n : Nat} (hg : Lg l) (hl : l.length ≤ n) : padL l n = tcS false l n := limN_eq (padL_Lg hg) (padL_len hl) (padL_V l n)
theorem tcS_T {l : List Nat} {n : Nat} (hl : l.length ≤ n) (x : Tw (padL l n)) (h : n ≤ x.k) (hz : 0 < VL l) : x.o ++ (padL l n).drop x.k = tcS true l n := by
  have h0 := padL_len hl
  obtain ⟨h1, h2⟩ := x.fin (by omega) (by rw [padL_V]; exact hz)
  rw [List.drop_of_length_le (by omega), List.append_nil]
  exact limN_eq x.lg (by omega) (by rw [h1, padL_V, h0]; rfl)
def notL (l : List Nat) : List Nat := l.map fun d => 4294967295 - d
def bkB (l : List Nat) : Bool := decide (2147483648 ≤ l.getD (l.length - 1) 0)
theorem top_bit {l : List Nat} (hg : Lg l) : decide (Int.fdiv ((l.getD ((l.length : Int) - 1).toNat 0 : Nat) : Int) (2 ^ min (Int.toNat 31) IntKind.u32.bits) = 1) = bkB l := by
  have h := lg_at hg (l.length - 1)
  rw [show ((l.length : Int) - 1).toNat = l.length - 1 by omega, fdiv_pow (q := 2147483648) (by decide), bkB]
  exact decide_eq_decide.2 (by omega)
def bkL (l : List Nat) : List Nat := if bkB l = true then lim (4294967296 ^ l.length - VL l) else lim (VL l)
theorem store_at {o x : List Nat} {k v : Nat} (ho : o.length = k) (hk : k < x.length) : (MR.upd (.map (o ++ x.drop k) uD 0) k (uD v)).rows = (MR.map ((o ++ [v]) ++ x.drop (k + 1)) uD 0).rows := by
  simp only [MR.rows]
  rw [← List.map_set]
  congr 1
  rw [List.set_append_right _ _ (by omega), ho, Nat.sub_self, List.drop_eq_getElem_cons hk, List.set_cons_zero]
  simp
theorem row_at {o x : List Nat} {k : Nat} (ho : o.length = k) : (o ++ x.drop k).getD k 0 = x.getD k 0 := by
  rw [List.getD_eq_getElem?_getD, List.getElem?_append_right (by omega), ho, Nat.sub_self, List.getElem?_drop, List.getD_eq_getElem?_getD]; rfl
theorem tw_s {x : List Nat} (t : Tw x) (hg : Lg x) : IntKind.u64.wrap ((t.c : Int) + IntKind.u64.wrap (bNot .u32 (((t.o ++ x.drop t.k).getD ((t.k : Nat) : Int).toNat 0 : Nat) : Int))) = ((t.s : Nat) : Int) := by
  have h1 := lg_at hg t.k
  have h2 := t.hc
  rw [Int.toNat_natCast, row_at t.lo, not_u32 h1]
  unfold Tw.s
  simp only [IntKind.wrap, IntKind.signed, IntKind.bits, Bool.false_and, Bool.false_eq_true, if_false]
  omega
theorem tw_c {x : List Nat} (t : Tw x) : Int.fdiv ((t.s : Nat) : Int) (2 ^ min (Int.toNat 32) IntKind.u64.bits) = ((t.s / 4294967296 : Nat) : Int) := fdiv_pow (by decide)
theorem tw_o {x : List Nat} (t : Tw x) : IntKind.u32.wrap ((t.s : Nat) : Int) = ((t.s % 4294967296 : Nat) : Int) := by
  simp only [IntKind.wrap, IntKind.signed, IntKind.bits, Bool.false_and, Bool.false_eq_true, if_false]
  omega
theorem notL_len (l : List Nat) : (notL l).length = l.length := List.length_map _
theorem notL_Lg (l : List Nat) : Lg (notL l) := not_Lg l
theorem nt_fin {x : List Nat} (t : Nt x) (h : x.length ≤ t.k) : t.o ++ x.drop t.k = notL x := by rw [t.eq, List.drop_of_length_le h, List.take_of_length_le h, List.append_nil]; rfl
theorem SubP.fn0 {f : FuncId} : SubP (.v (.func (.func f) #[] #[])) (.clo f []) := fun _ _ _ h => ⟨[], h, trivial⟩
def bkX (l : List Nat) : List Nat := if bkB l = true then tcS true l l.length else l
theorem bkX_len (l : List Nat) : (bkX l).length = l.length := by
  unfold bkX
  split
  · exact limN_len _ _
  · rfl
theorem bkX_Lg {l : List Nat} (h : Lg l) : Lg (bkX l) := by
  unfold bkX
  split
  · exact limN_Lg _ _
  · exact h
theorem bk_pos {l : List Nat} (h : bkB l = true) : 0 < VL l := by
  have h1 := of_decide_eq_true h
  rcases Nat.eq_zero_or_pos l.length with h0 | h0
  · rw [List.eq_nil_of_length_eq_zero h0] at h1; exact absurd h1 (by decide)
  · have h2 := top_V (l := l) (n := l.length - 1) (by omega)
    have h3 : 0 < 4294967296 ^ (l.length - 1) * l.getD (l.length - 1) 0 := Nat.mul_pos (Nat.pow_pos (by decide)) (by omega)
    omega
theorem bkX_fin {l : List Nat} (hg : Lg l) (x : TrmL (bkX l)) (h : 0 < x.r.length → x.r.getD (x.r.length - 1) 0 ≠ 0) : x.r = bkL l := by
  rw [x.fin h, bkX, bkL]
  split
  · rename_i hb
    have := L_lt hg
    have := bk_pos hb
    rw [tcS, if_pos rfl, V_limN (by omega)]
  · rfl
theorem intAt_ok (c i : Int) : Fn Tryz.prog 134 [.v (.int .i64 c), .v (.int .i64 i)] (faD c i) := by
  refine fn_ev tabT Tryz.func134 rfl rfl rfl rfl rfl rfl ?_
  intro w0 s0 mx
  refine ev_R tabT [] 100 ?_
  refine ev_R tabT [] 200 ?_
  refine ev_ret ?_
  exact FinV.ret rfl (SubP.refl _)
theorem intValid_ok (b : Bool) (l : List Nat) (hl : l.length ≤ 2000000) : Fn Tryz.prog 133 [.agg [.v (.bool b), usD l]] (.v (.bool (intOk b l))) := by
  refine fn_ev tabT Tryz.func133 rfl rfl rfl rfl rfl rfl ?_
  intro w0 s0 mx
  refine ev_R tabT [] 100 ?_
  refine ev_R tabT [] 200 ?_
  refine ev_seq (ev_region tabT [] 300 rfl ?_)
  repeat (first | refine sat_same ?_ | refine sat_impA ?_ | refine sat_need (by first | exact trivial | omega | exact ini (by omega) (by omega) | (intro hh; simp at hh; exact ini (by omega) (by omega)) | (intro hh; simp at hh ⊢; omega) | (simp at *; omega) | (simp_all; done) | (intros; exact ini (by omega) (by omega))) ?_)
  refine sat_done (exS_normal (ev_ret ?_))
  exact FinV.ret rfl (SubP.bool (by rw [← intOk_raw]))
theorem intCheck_ok (L : List (Bool × List Nat)) (hv : ∀ k < L.length, intOk (L.getD k (false, [])).1 (L.getD k (false, [])).2 = true ∧ (L.getD k (false, [])).2.length ≤ 2000000) (hl : L.length ≤ 100) : Fn Tryz.prog 99 [.sl false 2 L iV (false, [])] (faD 0 0) := by
  refine fn_ev tabT Tryz.func99 rfl rfl rfl rfl rfl rfl ?_
  intro w0 s0 mx
  refine ev_R tabT [] 100 ?_
  refine ev_seq ?_
  refine ev_R tabT [] 200 ?_
  refine ev_block ?_
  refine ev_loopK (ι := {k : Nat // k ≤ L.length}) [2, 5, 6] [0] 250 (fun x => [(7, .v (.int .i64 x.1))]) (fun _ => []) (fun x => L.length - x.1) ⟨0, Nat.zero_le _⟩ ?_
  refine ⟨⟨le_t, le_o, rfl, rfl⟩, fun x => ?_⟩
  have hk : x.1 ≤ L.length := x.2
  refine ev_R tabT [] 300 ?_
  refine ev_seq ?_
  refine ev_if (fun c2 => ?_) (fun c2 => ?_)
  ·
    refine ev_skip (exS_normal ?_)
    refine ev_seq ?_
    refine ev_block ?_
    refine ev_R tabT [] 400 ?_
    refine ev_seq (ev_region tabT [] 500 rfl ?_)
    refine sat_go ?_
    refine sat_fn _ (intValid_ok _ _ (by first | assumption | omega | (simp_all; done))) rfl ?_
    refine sat_go ?_
    refine sat_done (exS_normal ?_)
    refine ev_if (fun c4 => ?_) (fun c4 => ?_)
    ·
      exact Bool.noConfusion (c4.symm.trans (hv x.1 (by omega)).1)
    ·
      refine ev_skip (exBl_normal (exS_normal ?_))
      refine ev_Q tabT [] 700 ?_
      exact exL_normal (⟨x.1 + 1, by omega⟩) ⟨⟨Sub.int (by push_cast; rfl), le_t⟩, le_o, rfl, rfl⟩ (by show L.length - (x.1 + 1) < L.length - x.1; omega)
  ·
    refine ev_exit (exS_exit (exL_exit (exBl_same (exS_normal ?_))))
    refine ev_R tabT [] 800 ?_
    refine ev_ret ?_
    exact FinV.ret rfl (SubP.refl _)
theorem intSigned_ok (b : Bool) (l : List Nat) : Fn Tryz.prog 100 [.v (.bool b), usD l] (sgD b l) := by
  refine fn_ev tabT Tryz.func100 rfl rfl rfl rfl rfl rfl ?_
  intro w0 s0 mx
  refine ev_R tabT [] 100 ?_
  refine ev_seq ?_
  refine ev_R tabT [] 200 ?_
  refine ev_if (fun c1 => ?_) (fun c1 => ?_)
  ·
    refine ev_seq (ev_region tabT [] 300 rfl ?_)
    refine sat_go ?_
    refine sat_fn _ (intAt_ok _ _) rfl ?_
    refine sat_go ?_
    refine sat_done (exS_normal (ev_ret (exS_ret ?_)))
    exact FinV.ret rfl (sgD_gt (b := b) (l := l) (by omega))
  ·
    refine ev_skip (exS_normal ?_)
    refine ev_R tabT [] 400 ?_
    refine ev_ret ?_
    exact FinV.ret rfl (SubP.of_eq (sgD_le (b := b) (l := l) (by omega)))
theorem intNot1_ok (x y : Nat) (hx : x < 4294967296) : Fn Tryz.prog 103 [.v (.int .u32 x), .v (.int .u32 y)] (.v (.int .u32 (4294967295 - x : Nat))) := by
  refine fn_ev tabT Tryz.func103 rfl rfl rfl rfl rfl rfl ?_
  intro w0 s0 mx
  refine ev_R tabT [] 100 ?_
  refine ev_R tabT [] 200 ?_
  refine ev_ret ?_
  exact FinV.ret rfl (SubP.of_eq (by rw [not_u32 hx]))
theorem intTwos_ok (b : Bool) (l : List Nat) (n : Nat) (hg : Lg l) (hl : l.length ≤ n) (hn : n ≤ 100000000) (hz : b = true → 0 < VL l) : FnG Tryz.prog 136 [.agg [.v (.bool b), usD l], .v (.int .i64 n)] [] (.mo 0 n) [.mrow 86 1 (.map (tcS b l n) uD 0)] := by
  refine fnH_ev tabT Tryz.func136 rfl rfl rfl rfl rfl rfl rfl ?_
  intro w0 s0 mx
  refine ev_R tabT [] 100 ?_
  refine ev_R tabT [1010] 200 ?_
  refine ev_seq (ev_region tabT [] 300 rfl ?_)
  repeat (first | refine sat_same ?_ | refine sat_impA ?_ | refine sat_need (by first | exact List.length_replicate.symm | (simpa using hl)) ?_)
  refine sat_done (exS_normal ?_)
  refine ev_tell [2] [0] 310 [(5, .mo 101 n)] [(101, .mrow 86 1 (.map (padL l n) uD 0))] ?_
  refine ⟨⟨le_t, ⟨SubO.mr (pad_rows hl), le_o⟩, rfl, rfl⟩, ?_⟩
  refine ev_seq ?_
  refine ev_R tabT [] 400 ?_
  refine ev_if (fun c3 => ?_) (fun c3 => ?_)
  ·
    refine ev_R tabT [] 500 ?_
    refine ev_ret (exS_ret ?_)
    subst c3
    exact FinH.ret 101 rfl rfl (Sub.refl _) ⟨SubO.mr (by rw [tcS_F hg hl]), trivial⟩
  ·
    refine ev_skip (exS_normal ?_)
    refine ev_R tabT [] 600 ?_
    refine ev_seq ?_
    refine ev_R tabT [] 700 ?_
    refine ev_block ?_
    refine ev_loopK (ι := Tw (padL l n)) [5, 19, 20] [] 750 (fun x => [(6, .v (.int .u64 x.c)), (21, .v (.int .i64 x.k))]) (fun x => [(101, .mrow 86 1 (.map (x.o ++ (padL l n).drop x.k) uD 0))]) (fun x => n - x.k) (Tw.start _) ?_
    refine ⟨⟨le_t, le_o, rfl, rfl⟩, fun x => ?_⟩
    have hk := x.le
    rw [padL_len hl] at hk
    have hlo := x.lo
    have hp := padL_len hl
    have hm : n = (MR.map (x.o ++ (padL l n).drop x.k) uD 0).len := by rw [MR.len, List.length_append, List.length_drop]; omega
    refine ev_R tabT [] 800 ?_
    refine ev_seq ?_
    refine ev_if (fun c7 => ?_) (fun c7 => ?_)
    ·
      refine ev_skip (exS_normal ?_)
      refine ev_seq ?_
      refine ev_block ?_
      refine ev_seq (ev_region tabT [] 900 rfl ?_)
      repeat (first | refine sat_same ?_ | refine sat_impA ?_ | refine sat_need (by first | exact ⟨hm, by rw [← hm]; exact c7⟩ | first | exact trivial | omega | exact ini (by omega) (by omega) | (intro hh; simp at hh; exact ini (by omega) (by omega)) | (intro hh; simp at hh ⊢; omega) | (simp at *; omega) | (simp_all; done)) ?_)
      refine sat_done (exS_normal ?_)
      refine ev_R tabT [] 1000 ?_
      refine ev_seq (ev_region tabT [] 1100 rfl ?_)
      repeat (first | refine sat_same ?_ | refine sat_impA ?_ | refine sat_need (by first | exact ⟨hm, by rw [← hm]; exact c7⟩ | first | exact trivial | omega | exact ini (by omega) (by omega) | (intro hh; simp at hh; exact ini (by omega) (by omega)) | (intro hh; simp at hh ⊢; omega) | (simp at *; omega) | (simp_all; done)) ?_)
      refine sat_done (exS_normal ?_)
      refine ev_Q tabT [] 1200 ?_
      refine exBl_normal (exS_normal ?_)
      refine ev_Q tabT [] 1300 ?_
      exact exL_normal (x.next (padL_Lg hg) (by rw [padL_len hl]; omega)) ⟨⟨Sub.int (by rw [tw_s x (padL_Lg hg)]; exact tw_c x), le_t⟩, ⟨SubO.mr (by rw [tw_s x (padL_Lg hg), tw_o]; exact store_at hlo (by omega)), le_o⟩, rfl, rfl⟩ (by show n - (x.k + 1) < n - x.k; omega)
    ·
      refine ev_exit (exS_exit (exL_exit (exBl_same (exS_normal ?_))))
      refine ev_R tabT [] 1400 ?_
      refine ev_ret ?_
      subst c3
      exact FinH.ret 101 rfl rfl (Sub.refl _) ⟨SubO.mr (by rw [tcS_T hl x (by omega) (hz rfl)]), trivial⟩
theorem intBack_ok (l : List Nat) (hg : Lg l) (h0 : 0 < l.length) (hl : l.length ≤ 100000000) : Fn Tryz.prog 137 [usD l] (sgD (bkB l) (bkL l)) := by
  have hb : bkB l = decide (2147483648 ≤ l.getD (l.length - 1) 0) := rfl
  refine fn_ev tabT Tryz.func137 rfl rfl rfl rfl rfl rfl ?_
  intro w0 s0 mx
  refine ev_R tabT [] 100 ?_
  refine ev_R tabT [] 200 ?_
  refine ev_tell [0, 2, 3] [0, 1] 210 [(4, .v (.bool (bkB l)))] [] ?_
  refine ⟨⟨⟨Sub.of_eq (by rw [top_bit hg]), le_t⟩, le_o, rfl, rfl⟩, ?_⟩
  refine ev_seq ?_
  refine ev_R tabT [] 300 ?_
  refine ev_if (fun c2 => ?_) (fun c2 => ?_)
  ·
    refine ev_region tabT [1018] 400 rfl ?_
    refine sat_go ?_
    refine sat_fnH _ _ (intTwos_ok true l l.length hg (Nat.le_refl _) hl (fun _ => bk_pos c2)) rfl ?_
    refine sat_go ?_
    refine sat_done (exS_normal ?_)
    refine ev_seq ?_
    refine ev_block ?_
    refine ev_freeze 304 rfl (by repeat (first | exact trivial | exact (limN_len _ _).symm | refine ⟨?_, ?_⟩)) (by repeat (first | exact trivial | refine ⟨?_, ?_⟩)) ?_
    refine ev_loopK (ι := TrmL (bkX l)) [2, 3, 4] [0, 1] 450 (fun x => [(0, .sl false 1 x.r uD 0)]) (fun _ => []) (fun x => x.r.length) ⟨bkX l, bkX_Lg hg, rfl, Nat.le_refl _⟩ ?_
    refine ⟨⟨⟨Sub.ownSl (by show List.map uD _ = List.map uD (bkX l); rw [bkX, if_pos c2]), le_t⟩, le_o, rfl, rfl⟩, fun x => ?_⟩
    have hk := x.le
    rw [bkX_len] at hk
    refine ev_seq ?_
    refine ev_R tabT [] 500 ?_
    refine ev_if (fun c4 => ?_) (fun c4 => ?_)
    ·
      refine ev_skip (exS_normal (ev_block ?_))
      refine ev_Q tabT [] 600 ?_
      refine exBl_normal ?_
      have h9 := c4.2
      rw [t_last] at h9
      exact exL_normal (x.next (by omega) (by omega)) ⟨(by first | exact trivial | (repeat (first | exact trivial | exact Sub.refl _ | refine ⟨?_, ?_⟩ | exact Sub.int (by first | rfl | omega | (push_cast; omega)) | exact Sub.nilSl | exact Sub.own rfl | exact Sub.slrSl rfl | exact Sub.ownSl (List.map_append).symm | exact Sub.ownSl rfl | exact Sub.of_eq (by rw [t_cut]; rfl)))), le_o, rfl, rfl⟩ (by show (x.r.take (x.r.length - 1)).length < x.r.length; rw [List.length_take]; omega)
    ·
      refine ev_exit (exS_exit (exL_exit (exBl_same (exS_normal ?_))))
      refine ev_seq (ev_region tabT [] 700 rfl ?_)
      refine sat_go ?_
      refine sat_fn _ (intSigned_ok _ _) rfl ?_
      refine sat_go ?_
      refine sat_done (exS_normal (ev_ret ?_))
      rw [t_last] at c4
      have e : x.r = bkL l := bkX_fin hg x (fun hp h9 => by rw [h9, decide_eq_true (show (0 : Int) < (x.r.length : Nat) by omega)] at c4; exact absurd c4 (by decide))
      exact FinV.ret rfl (SubP.of_eq (by rw [e]; rfl))
  ·
    refine ev_skip (exS_normal ?_)
    refine ev_seq ?_
    refine ev_block ?_
    refine ev_loopK (ι := TrmL (bkX l)) [2, 3, 4] [0, 1] 350 (fun x => [(0, .sl false 1 x.r uD 0)]) (fun _ => []) (fun x => x.r.length) ⟨bkX l, bkX_Lg hg, rfl, Nat.le_refl _⟩ ?_
    refine ⟨⟨⟨Sub.of_eq (by show usD l = usD (bkX l); rw [bkX, if_neg (by simp [c2])]), le_t⟩, le_o, rfl, rfl⟩, fun x => ?_⟩
    have hk := x.le
    rw [bkX_len] at hk
    refine ev_seq ?_
    refine ev_R tabT [] 500 ?_
    refine ev_if (fun c4 => ?_) (fun c4 => ?_)
    ·
      refine ev_skip (exS_normal (ev_block ?_))
      refine ev_Q tabT [] 600 ?_
      refine exBl_normal ?_
      have h9 := c4.2
      rw [t_last] at h9
      exact exL_normal (x.next (by omega) (by omega)) ⟨(by first | exact trivial | (repeat (first | exact trivial | exact Sub.refl _ | refine ⟨?_, ?_⟩ | exact Sub.int (by first | rfl | omega | (push_cast; omega)) | exact Sub.nilSl | exact Sub.own rfl | exact Sub.slrSl rfl | exact Sub.ownSl (List.map_append).symm | exact Sub.ownSl rfl | exact Sub.of_eq (by rw [t_cut]; rfl)))), le_o, rfl, rfl⟩ (by show (x.r.take (x.r.length - 1)).length < x.r.length; rw [List.length_take]; omega)
    ·
      refine ev_exit (exS_exit (exL_exit (exBl_same (exS_normal ?_))))
      refine ev_seq (ev_region tabT [] 700 rfl ?_)
      refine sat_go ?_
      refine sat_fn _ (intSigned_ok _ _) rfl ?_
      refine sat_go ?_
      refine sat_done (exS_normal (ev_ret ?_))
      rw [t_last] at c4
      have e : x.r = bkL l := bkX_fin hg x (fun hp h9 => by rw [h9, decide_eq_true (show (0 : Int) < (x.r.length : Nat) by omega)] at c4; exact absurd c4 (by decide))
      exact FinV.ret rfl (SubP.of_eq (by rw [e]; rfl))
theorem bitNot_ok (b : Bool) (l : List Nat) (hg : Lg l) (hl : l.length ≤ 100000) (hv : intOk b l = true) (hz : b = true → 0 < VL l) : Fn Tryz.prog 102 [.agg [.v (.bool b), usD l], .agg [.v (.bool false), usD []], .clo 103 []] (sgD (bkB (notL (tcS b l (l.length + 1)))) (bkL (notL (tcS b l (l.length + 1))))) := by
  have hx : (tcS b l (l.length + 1)).length = l.length + 1 := limN_len _ _
  have hx2 : (tcS false [] (l.length + 1)).length = l.length + 1 := limN_len _ _
  refine fn_ev tabT Tryz.func102 rfl rfl rfl rfl rfl rfl ?_
  intro w0 s0 mx
  refine ev_R tabT [] 100 ?_
  refine ev_seq ?_
  refine ev_seq (ev_region tabT [] 200 rfl ?_)
  refine sat_go ?_
  refine sat_fn _ ((intCheck_ok [(b, l), (false, [])] (fun k hk => by rcases k with _ | _ | k; exact ⟨hv, by show l.length ≤ 2000000; omega⟩; exact ⟨rfl, by show 0 ≤ 2000000; omega⟩; exact absurd hk (by simp)) (by show 2 ≤ 100; omega)).args ⟨SubP.slrSl rfl, trivial⟩) rfl ?_
  refine sat_go ?_
  refine sat_done (exS_normal ?_)
  refine ev_R tabT [] 300 ?_
  refine ev_if (fun c2 => ?_) (fun c2 => ?_)
  ·
    exact absurd c2 (by decide)
  ·
    refine ev_skip (exS_normal ?_)
    refine ev_seq (ev_region tabT [] 500 rfl ?_)
    repeat (first | refine sat_same ?_ | refine sat_impA ?_ | refine sat_need (by first | (simp only [List.length_nil]; exact ini (by split <;> omega) (by split <;> omega)) | first | exact trivial | omega | exact ini (by omega) (by omega) | (intro hh; simp at hh; exact ini (by omega) (by omega)) | (intro hh; simp at hh ⊢; omega) | (simp at *; omega) | (simp_all; done)) ?_)
    refine sat_done (exS_normal ?_)
    refine ev_tell [2, 3, 4, 6, 7] [0, 1, 2, 3] 510 [(9, .v (.int .i64 (l.length + 1 : Nat)))] [] ?_
    refine ⟨⟨⟨Sub.int (by (try simp only [List.length_nil]); split <;> omega), le_t⟩, le_o, rfl, rfl⟩, ?_⟩
    refine ev_seq (ev_drawn tabT [1032, 1035] [[], [], [0, 1], [], [], [0, 1, 2, 3, 4], [0, 1, 2, 3, 4, 5], [0, 1, 2, 3, 4, 5, 6]] 600 mixT (by kernel_rfl) rfl ?_)
    refine sat_go ?_
    refine sat_fnH _ _ (intTwos_ok b l (l.length + 1) hg (by omega) (by omega) hz) rfl ?_
    refine sat_go ?_
    refine sat_fnH _ _ ((intTwos_ok false [] (l.length + 1) Lg.nil (by show 0 ≤ _; omega) (by omega) (fun h => by cases h))) rfl ?_
    refine sat_go ?_
    refine sat_done (exS_normal ?_)
    refine ev_seq ?_
    refine ev_R tabT [] 700 ?_
    refine ev_block ?_
    refine ev_loopK (ι := Nt (tcS b l (l.length + 1))) [2, 6, 7, 10, 11, 37] [2, 3, 515] 750 (fun x => [(38, .v (.int .i64 x.k))]) (fun x => [(512, .mrow 86 1 (.map (x.o ++ (tcS b l (l.length + 1)).drop x.k) uD 0))]) (fun x => l.length + 1 - x.k) ⟨0, [], rfl, Nat.zero_le _⟩ ?_
    refine ⟨⟨le_t, le_o, rfl, rfl⟩, fun x => ?_⟩
    have hk := x.le
    rw [hx] at hk
    have hlo := x.lo
    have hm : l.length + 1 = (MR.map (x.o ++ (tcS b l (l.length + 1)).drop x.k) uD 0).len := by rw [MR.len, List.length_append, List.length_drop]; omega
    have hm2 : l.length + 1 = (MR.map (tcS false [] (l.length + 1)) uD 0).len := by rw [MR.len, hx2]
    refine ev_R tabT [] 800 ?_
    refine ev_seq ?_
    refine ev_if (fun c7 => ?_) (fun c7 => ?_)
    ·
      refine ev_skip (exS_normal ?_)
      refine ev_seq ?_
      refine ev_block ?_
      refine ev_R tabT [] 900 ?_
      refine ev_drawn tabT [] [[], [], [], [], [], [3, 4], [3, 4, 5], [], [], [7, 8], [7, 8, 9], [2, 3, 4, 5, 6, 7, 8, 9, 10], [0, 1, 2, 3, 4, 5, 6, 7, 8, 9, 10, 11], [0, 1, 2, 3, 4, 5, 6, 7, 8, 9, 10, 11, 12]] 1000 mixT (by kernel_rfl) rfl ?_
      repeat (first | refine sat_same ?_ | refine sat_impA ?_ | refine sat_need (by first | exact ⟨hm, by rw [← hm]; exact c7⟩ | exact ⟨hm2, by rw [← hm2]; exact c7⟩ | first | exact trivial | omega | exact ini (by omega) (by omega) | (intro hh; simp at hh; exact ini (by omega) (by omega)) | (intro hh; simp at hh ⊢; omega) | (simp at *; omega) | (simp_all; done)) ?_)
      refine sat_fn _ (intNot1_ok _ _ (by rw [Int.toNat_natCast, row_at hlo]; exact lg_at (limN_Lg _ _) _)) rfl ?_
      repeat (first | refine sat_same ?_ | refine sat_impA ?_ | refine sat_need (by first | exact ⟨hm, by rw [← hm]; exact c7⟩ | exact ⟨hm2, by rw [← hm2]; exact c7⟩ | first | exact trivial | omega | exact ini (by omega) (by omega) | (intro hh; simp at hh; exact ini (by omega) (by omega)) | (intro hh; simp at hh ⊢; omega) | (simp at *; omega) | (simp_all; done)) ?_)
      refine sat_done (exBl_normal (exS_normal ?_))
      refine ev_Q tabT [] 1100 ?_
      exact exL_normal (x.next (by omega)) ⟨le_t, ⟨SubO.mr (by rw [Int.toNat_natCast, row_at x.lo]; exact store_at x.lo (by rw [hx]; omega)), le_o⟩, rfl, rfl⟩ (by show l.length + 1 - (x.k + 1) < l.length + 1 - x.k; omega)
    ·
      refine ev_exit (exS_exit (exL_exit (exBl_same (exS_normal ?_))))
      refine ev_freeze 512 rfl (by repeat (first | exact trivial | exact hm | refine ⟨?_, ?_⟩)) (by repeat (first | exact trivial | refine ⟨?_, ?_⟩)) ?_
      refine ev_seq (ev_region tabT [] 1200 rfl ?_)
      refine sat_go ?_
      refine sat_fn _ ((intBack_ok (notL (tcS b l (l.length + 1))) (notL_Lg _) (by rw [notL_len]; omega) (by rw [notL_len]; omega)).args ⟨SubP.ownSl (by show List.map uD _ = _; rw [nt_fin x (by omega)]), trivial⟩) rfl ?_
      refine sat_go ?_
      refine sat_done (exS_normal (ev_ret ?_))
      exact FinV.ret rfl (SubP.refl _)
theorem CloneU_ok (l : List Nat) (hl : l.length ≤ 2000000) : FnO Tryz.prog 48 [usD l] 86 1 (l.map uD) := by
  refine fnO_ev Tryz.func48 rfl rfl rfl rfl rfl rfl ?_
  intro w0 s0 mx
  refine ev_seq (ev_region tabT [5] 100 rfl ?_)
  repeat (first | refine sat_same ?_ | refine sat_impA ?_ | refine sat_need (by exact lenMap hl) ?_)
  refine sat_done (exS_normal ?_)
  refine ev_seq ?_
  refine ev_seq ?_
  refine ev_nilRegion Tryz.underlying25 rfl rfl rfl fun c hc => ?_
  refine exS_normal ?_
  refine ev_cond rfl (fun c1 => ?_) (fun c1 => ?_)
  ·
    refine ev_seq (ev_region tabT [5] 300 rfl ?_)
    repeat (first | refine sat_same ?_ | refine sat_impA ?_ | refine sat_need (by exact lenMap hl) ?_)
    refine sat_done (exS_normal (ev_ret (exS_ret ?_)))
    exact FinO.nil rfl (by rw [hc c1]; rfl)
  ·
    refine ev_skip (exS_normal ?_)
    refine ev_seq (ev_region tabT [5] 400 rfl ?_)
    repeat (first | refine sat_same ?_ | refine sat_impA ?_ | refine sat_need (by first | rfl | exact lenMap hl | (rw [List.length_nil]; have := lenMap (f := uD) hl; omega) | (have := lenMap (f := uD) hl; simp at this ⊢; omega)) ?_)
    refine sat_done (exS_normal (ev_ret ?_))
    exact FinO.ret rfl rfl rfl rfl
theorem intNeg_ok (b : Bool) (l : List Nat) (hv : intOk b l = true) (hl : l.length ≤ 1000000) : Fn Tryz.prog 54 [.agg [.v (.bool b), usD l]] (sgD (!b) l) := by
  refine fn_ev tabT Tryz.func54 rfl rfl rfl rfl rfl rfl ?_
  intro w0 s0 mx
  refine ev_R tabT [] 100 ?_
  refine ev_seq ?_
  refine ev_seq (ev_region tabT [] 200 rfl ?_)
  refine sat_go ?_
  refine sat_fn _ ((intCheck_ok [(b, l)] (fun k hk => by rcases k with _ | k; exact ⟨hv, by show l.length ≤ 2000000; omega⟩; exact absurd hk (by simp)) (by show 1 ≤ 100; omega)).args ⟨SubP.slrSl rfl, trivial⟩) rfl ?_
  refine sat_go ?_
  refine sat_done (exS_normal ?_)
  refine ev_R tabT [] 300 ?_
  refine ev_if (fun c2 => ?_) (fun c2 => ?_)
  ·
    exact absurd c2 (by decide)
  ·
    refine ev_skip (exS_normal ?_)
    refine ev_seq (ev_drawn tabT [18] [[], [0], [0, 1], [], [3], [3, 4], [0, 1, 2, 3, 4, 5], [0, 1, 2, 3, 4, 5, 6], [0, 1, 2, 3, 4, 5, 6], [0, 1, 2, 3, 4, 5, 6, 7, 8], [0, 1, 2, 3, 4, 5, 6, 7, 8, 9]] 500 mixT (by kernel_rfl) rfl ?_)
    refine sat_go ?_
    refine sat_fnO _ _ _ (CloneU_ok l (by omega)) ?_
    refine sat_go ?_
    refine sat_fn _ ((intSigned_ok (!b) l).args ⟨SubP.refl _, SubP.ownSl rfl, trivial⟩) rfl ?_
    refine sat_go ?_
    refine sat_done (exS_normal (ev_ret ?_))
    exact FinV.ret rfl (SubP.refl _)
theorem not_bk {b : Bool} {l : List Nat} (hg : Lg l) (hz : b = true → 0 < VL l) : bkB (notL (tcS b l (l.length + 1))) = (ntB b (VL l)).1 ∧ bkL (notL (tcS b l (l.length + 1))) = lim (ntB b (VL l)).2 := by
  have h1 := L_lt hg
  have hN : (notL (tcS b l (l.length + 1))).length = l.length + 1 := by rw [notL_len, tcS, limN_len]
  have hP : 4294967296 ^ (l.length + 1) = 4294967296 * 4294967296 ^ l.length := by rw [Nat.pow_succ, Nat.mul_comm]
  have hv : VL (tcS b l (l.length + 1)) = if b then 4294967296 ^ (l.length + 1) - VL l else VL l := by
    rw [tcS]
    refine V_limN ?_
    split
    · rename_i hb
      have := hz hb
      omega
    · omega
  have hn := not_V (x := tcS b l (l.length + 1)) (limN_Lg _ _)
  rw [hv, show (tcS b l (l.length + 1)).length = l.length + 1 from limN_len _ _] at hn
  have hn : VL (notL (tcS b l (l.length + 1))) + (if b then 4294967296 ^ (l.length + 1) - VL l else VL l) + 1 = 4294967296 ^ (l.length + 1) := hn
  have hy : Lg (notL (tcS b l (l.length + 1))) := notL_Lg _
  generalize notL (tcS b l (l.length + 1)) = y at *
  cases b
  · have ht : y.getD l.length 0 = 4294967295 := by
      simp only [Bool.false_eq_true, if_false] at hn
      exact top_neg hy hN (by omega)
    have hb : bkB y = true := by
      unfold bkB
      rw [hN, Nat.add_sub_cancel, ht]
      decide
    refine ⟨hb, ?_⟩
    rw [bkL, if_pos hb, hN, ntB, if_neg (by decide)]
    congr 1
    simp only [Bool.false_eq_true, if_false] at hn
    omega
  · have ht : y.getD l.length 0 = 0 := by
      have := hz rfl
      simp only [if_true] at hn
      exact top_pos hy hN (by omega)
    have hb : bkB y = false := by
      unfold bkB
      rw [hN, Nat.add_sub_cancel, ht]
      decide
    refine ⟨hb, ?_⟩
    rw [bkL, if_neg (by rw [hb]; decide), ntB, if_pos rfl]
    congr 1
    have := hz rfl
    simp only [if_true] at hn
    omega
theorem intNot_ok (b : Bool) (l : List Nat) (hg : Lg l) (hl : l.length ≤ 100000) (hv : intOk b l = true) (hz : b = true → 0 < VL l) : Fn Tryz.prog 56 [.agg [.v (.bool b), usD l]] (sgD (ntB b (VL l)).1 (lim (ntB b (VL l)).2)) := by
  refine fn_ev tabT Tryz.func56 rfl rfl rfl rfl rfl rfl ?_
  intro w0 s0 mx
  refine ev_R tabT [] 100 ?_
  refine ev_seq (ev_region tabT [] 200 rfl ?_)
  refine sat_go ?_
  refine sat_fn _ ((bitNot_ok b l hg hl hv hz).args ⟨SubP.refl _, SubP.agg ⟨SubP.refl _, SubP.nilSl rfl, trivial⟩, SubP.fn0, trivial⟩) rfl ?_
  refine sat_go ?_
  refine sat_done (exS_normal (ev_ret ?_))
  obtain ⟨e1, e2⟩ := not_bk hg hz
  exact FinV.ret rfl (SubP.of_eq (by rw [e1, e2]; rfl))
end Go.Proofs.YtcklaaaomjmhgaaGreatDoor
