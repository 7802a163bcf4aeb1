/- Part 18 of the proof. -/
import Derived.Test.YtnkjenaanjnihaaGreatDoorW17
import Derived.Test.YtnkjenaanjnihaaGreatDoorW13
import Derived.Test.YtnkjenaanjnihaaGreatDoorW16
import Derived.Test.YtnkjenaanjnihaaGreatDoorProg
import Derived.Ground.NamesProg
import Derived.Shelf.Spec.SlicesGrow
import Derived.Shelf.Strconv.Itoa3
import Derived.Shelf.Strconv.Quote
import Derived.Test.YtnkjenaanjnihaaGreatDoorW12
import Derived.Test.YtnkjenaanjnihaaGreatDoorW15


/- Walks by the evaluator: naturals of the program: divide, divMod, DivMod. -/
namespace Go.Proofs.YtnkjenaanjnihaaGreatDoor
open Go.RowKit
variable {md me : Bool}
theorem FnG.mw {P : Program} {f : FuncId} {k q i i' sz n n' : Nat} {r : List D} {own own' : List DOwn} {out : D} (h : FnG P f (.mw k q i sz n :: r) own out own') (h1 : i' = i) (h2 : n' = n) : FnG P f (.mw k q i' sz n' :: r) own out own' := by
  subst h1
  subst h2
  exact h
theorem limN_zero {q m X : Nat} (h : X < 4294967296 ^ m) : (limN q X).getD m 0 = 0 := by
  have h1 := VL_drop_one (limN q X) m
  have h2 := VL_div (limN_Lg q X) m
  have h3 : VL (limN q X) < 4294967296 ^ m := by
    rcases Nat.lt_or_ge X (4294967296 ^ q) with h4 | h4
    · rw [V_limN h4]; exact h
    · have h5 := L_lt (limN_Lg q X)
      rw [limN_len] at h5
      omega
  rw [Nat.div_eq_of_lt h3] at h2
  omega
theorem set_self {l : List Nat} {i v : Nat} (h : l.getD i 0 = v) : l.set i v = l := by
  apply List.ext_getElem?
  intro j
  rw [List.getElem?_set]
  split
  · rename_i e
    subst e
    split
    · rename_i hl
      rw [← h, List.getD_eq_getElem?_getD, List.getElem?_eq_getElem hl]; rfl
    · rename_i hl
      rw [List.getElem?_eq_none (by omega)]
  · rfl
theorem cut_rows {U : List Nat} {q n : Nat} (h : n ≤ q) : List.take (((n : Nat) : Int).toNat - Int.toNat 0) (List.drop (Int.toNat 0) (List.take q (List.drop 0 (MR.map U uD 0).rows))) = (U.take n).map uD := by
  show List.take (n - 0) (List.take q (U.map uD)) = _
  rw [List.take_take, Nat.sub_zero, Nat.min_eq_left h, List.map_take]
def shN (b : Nat) : Nat := 32 - blN ((lim b).getD ((lim b).length - 1) 0)
theorem shN_facts {b : Nat} (h0 : 0 < (lim b).length) : shN b < 32 ∧ (lim (b * 2 ^ shN b)).length = (lim b).length ∧ 2147483648 * 4294967296 ^ ((lim b).length - 1) ≤ b * 2 ^ shN b := by
  obtain ⟨m, hm⟩ : ∃ m, (lim b).length = m + 1 := ⟨(lim b).length - 1, by omega⟩
  have ht := lim_top (x := b) h0
  have hl := lg_at (lim_Dg b) ((lim b).length - 1)
  have hv := top_V (l := lim b) (n := m) hm
  have hlow := L_lt (Lg.take (lim_Dg b) m)
  rw [List.length_take, Nat.min_eq_left (by omega)] at hlow
  rw [L_dig] at hv
  unfold shN
  rw [hm, Nat.add_sub_cancel] at ht hl ⊢
  obtain ⟨p1, p2⟩ := blN_pow (x := (lim b).getD m 0) (by omega) hl
  have hb := blN_le ((lim b).getD m 0)
  generalize (lim b).getD m 0 = t at *
  generalize blN t = k at *
  generalize VL ((lim b).take m) = r at *
  have hk : 0 < k := by
    rcases Nat.eq_zero_or_pos k with h | h
    · subst h; rw [Nat.pow_zero] at p2; omega
    · exact h
  have hP : 2 ^ k * 2 ^ (32 - k) = 4294967296 := by rw [← Nat.pow_add, show k + (32 - k) = 32 by omega]
  have hp0 : 0 < 2 ^ (32 - k) := Nat.pow_pos (by decide)
  have hB : 0 < 4294967296 ^ m := Nat.pow_pos (by decide)
  have u1 : b < 4294967296 ^ m * (t + 1) := by rw [Nat.mul_add]; omega
  have u2 : b * 2 ^ (32 - k) < 4294967296 ^ (m + 1) := by
    have e1 : b * 2 ^ (32 - k) < 4294967296 ^ m * (t + 1) * 2 ^ (32 - k) := Nat.mul_lt_mul_of_pos_right u1 hp0
    have e2 : (t + 1) * 2 ^ (32 - k) ≤ 2 ^ k * 2 ^ (32 - k) := Nat.mul_le_mul_right _ p2
    rw [hP] at e2
    have e3 : 4294967296 ^ m * ((t + 1) * 2 ^ (32 - k)) ≤ 4294967296 ^ m * 4294967296 := Nat.mul_le_mul_left _ e2
    rw [Nat.mul_assoc] at e1
    rw [Nat.pow_succ]
    omega
  have u3 : 2147483648 * 4294967296 ^ m ≤ b * 2 ^ (32 - k) := by
    have e1 : 4294967296 ^ m * t * 2 ^ (32 - k) ≤ b * 2 ^ (32 - k) := Nat.mul_le_mul_right _ (by omega)
    have e2 : 2 ^ k * 2 ^ (32 - k) ≤ 2 * t * 2 ^ (32 - k) := Nat.mul_le_mul_right _ p1
    rw [hP, Nat.mul_assoc] at e2
    have e3 : 4294967296 ^ m * 2147483648 ≤ 4294967296 ^ m * (t * 2 ^ (32 - k)) := Nat.mul_le_mul_left _ (by omega)
    rw [Nat.mul_assoc] at e1
    rw [Nat.mul_comm]
    omega
  refine ⟨by omega, ?_, u3⟩
  have l1 := lim_length_le u2
  have l2 := lim_len_mono (x := b) (y := b * 2 ^ (32 - k)) (Nat.le_mul_of_pos_right _ hp0)
  omega
theorem natDivide_ok (a b : Nat) (ha : (lim a).length ≤ 100000) (hn : 2 ≤ (lim b).length) (hle : (lim b).length ≤ (lim a).length) : Fn Tryz.prog 168 [usD (lim a), usD (lim b)] (.tup [usD (lim (a / b)), usD (lim (a % b))]) := by
  obtain ⟨hs, hsl, hst⟩ := shN_facts (b := b) (by omega)
  have hn1 : (((lim b).length : Int) - 1).toNat = (lim b).length - 1 := by omega
  have hsp : 2 ^ shN b ≤ 2147483648 := by have h := Nat.pow_le_pow_right (show 0 < 2 by decide) (show shN b ≤ 31 by omega); simpa using h
  have gv := lim_Dg (b * 2 ^ shN b)
  have hLa := lim_lt a
  have hXl : (a * 2 ^ shN b) < 4294967296 ^ ((lim a).length + 1) := by rw [Nat.pow_succ]; exact Nat.mul_lt_mul_of_lt_of_le hLa (by omega) (by decide)
  have hvt : 0 < (lim (b * 2 ^ shN b)).getD ((lim b).length - 1) 0 := by have := lim_top (x := (b * 2 ^ shN b)) (by omega); rw [hsl] at this; omega
  have htl := top_lt (a := a) (b := (b * 2 ^ shN b)) (s := shN b) (n := (lim b).length) (m := ((lim a).length + 1 - (lim b).length)) (L := (lim a).length) hLa (by omega) (by omega) hsp hst
  have hml := lim_length_le hXl
  refine fn_ev tabT Tryz.func168 rfl rfl rfl rfl rfl rfl ?_
  intro w0 s0 mx
  refine ev_seq (ev_region tabT [] 100 rfl ?_)
  repeat (first | refine sat_same ?_ | refine sat_impA ?_ | refine sat_need (by first | exact trivial | omega | exact ⟨by decide, by omega, by simp only [List.length_take, List.length_drop, MR.len_rows, ← hmU, Nat.sub_zero, Nat.min_self]; omega⟩ | exact ini (by omega) (by omega) | exact ⟨hmo, by rw [← hmo]; omega⟩ | exact ⟨hmo, by omega⟩ | (constructor <;> omega) | (refine ⟨?_, ?_, ?_⟩ <;> omega) | (refine ⟨?_, ?_, ?_, ?_⟩ <;> omega) | first | exact trivial | omega | exact ini (by omega) (by omega) | (intro hh; simp at hh; exact ini (by omega) (by omega)) | (intro hh; simp at hh ⊢; omega) | (simp at *; omega) | (simp_all; done)) ?_)
  refine sat_done (exS_normal ?_)
  refine ev_seq (ev_region tabT [] 200 rfl ?_)
  repeat (first | refine sat_same ?_ | refine sat_impA ?_ | refine sat_need (by first | exact trivial | omega | exact ⟨by decide, by omega, by simp only [List.length_take, List.length_drop, MR.len_rows, ← hmU, Nat.sub_zero, Nat.min_self]; omega⟩ | exact ini (by omega) (by omega) | exact ⟨hmo, by rw [← hmo]; omega⟩ | exact ⟨hmo, by omega⟩ | (constructor <;> omega) | (refine ⟨?_, ?_, ?_⟩ <;> omega) | (refine ⟨?_, ?_, ?_, ?_⟩ <;> omega) | first | exact trivial | omega | exact ini (by omega) (by omega) | (intro hh; simp at hh; exact ini (by omega) (by omega)) | (intro hh; simp at hh ⊢; omega) | (simp at *; omega) | (simp_all; done)) ?_)
  refine sat_done (exS_normal ?_)
  refine ev_seq (ev_region tabT [] 300 rfl ?_)
  repeat (first | refine sat_same ?_ | refine sat_impA ?_ | refine sat_need (by first | exact trivial | omega | exact ⟨by decide, by omega, by simp only [List.length_take, List.length_drop, MR.len_rows, ← hmU, Nat.sub_zero, Nat.min_self]; omega⟩ | exact ini (by omega) (by omega) | exact ⟨hmo, by rw [← hmo]; omega⟩ | exact ⟨hmo, by omega⟩ | (constructor <;> omega) | (refine ⟨?_, ?_, ?_⟩ <;> omega) | (refine ⟨?_, ?_, ?_, ?_⟩ <;> omega) | first | exact trivial | omega | exact ini (by omega) (by omega) | (intro hh; simp at hh; exact ini (by omega) (by omega)) | (intro hh; simp at hh ⊢; omega) | (simp at *; omega) | (simp_all; done)) ?_)
  refine sat_fn _ (Lz32_ok _ (lg_at (lim_Dg b) _)) rfl ?_
  repeat (first | refine sat_same ?_ | refine sat_impA ?_ | refine sat_need (by first | exact trivial | omega | exact ⟨by decide, by omega, by simp only [List.length_take, List.length_drop, MR.len_rows, ← hmU, Nat.sub_zero, Nat.min_self]; omega⟩ | exact ini (by omega) (by omega) | exact ⟨hmo, by rw [← hmo]; omega⟩ | exact ⟨hmo, by omega⟩ | (constructor <;> omega) | (refine ⟨?_, ?_, ?_⟩ <;> omega) | (refine ⟨?_, ?_, ?_, ?_⟩ <;> omega) | first | exact trivial | omega | exact ini (by omega) (by omega) | (intro hh; simp at hh; exact ini (by omega) (by omega)) | (intro hh; simp at hh ⊢; omega) | (simp at *; omega) | (simp_all; done)) ?_)
  refine sat_done (exS_normal ?_)
  refine ev_tell [0, 1, 6] [] 310 [(7, .v (.int .i64 (shN b : Nat)))] [] ?_
  refine ⟨⟨⟨Sub.int (by rw [hn1]; rfl), le_t⟩, le_o, rfl, rfl⟩, ?_⟩
  refine ev_seq (ev_region tabT [1025] 400 rfl ?_)
  repeat (first | refine sat_same ?_ | refine sat_impA ?_ | refine sat_need (by first | exact trivial | omega | exact ⟨by decide, by omega, by simp only [List.length_take, List.length_drop, MR.len_rows, ← hmU, Nat.sub_zero, Nat.min_self]; omega⟩ | exact ini (by omega) (by omega) | exact ⟨hmo, by rw [← hmo]; omega⟩ | exact ⟨hmo, by omega⟩ | (constructor <;> omega) | (refine ⟨?_, ?_, ?_⟩ <;> omega) | (refine ⟨?_, ?_, ?_, ?_⟩ <;> omega) | first | exact trivial | omega | exact ini (by omega) (by omega) | (intro hh; simp at hh; exact ini (by omega) (by omega)) | (intro hh; simp at hh ⊢; omega) | (simp at *; omega) | (simp_all; done)) ?_)
  refine sat_fn _ (natLeft_ok b (shN b) (by omega) (by omega)) rfl ?_
  repeat (first | refine sat_same ?_ | refine sat_impA ?_ | refine sat_need (by first | exact trivial | omega | exact ⟨by decide, by omega, by simp only [List.length_take, List.length_drop, MR.len_rows, ← hmU, Nat.sub_zero, Nat.min_self]; omega⟩ | exact ini (by omega) (by omega) | exact ⟨hmo, by rw [← hmo]; omega⟩ | exact ⟨hmo, by omega⟩ | (constructor <;> omega) | (refine ⟨?_, ?_, ?_⟩ <;> omega) | (refine ⟨?_, ?_, ?_, ?_⟩ <;> omega) | first | exact trivial | omega | exact ini (by omega) (by omega) | (intro hh; simp at hh; exact ini (by omega) (by omega)) | (intro hh; simp at hh ⊢; omega) | (simp at *; omega) | (simp_all; done)) ?_)
  refine sat_fnH _ _ (natLeft_G a (shN b) (by omega) hs) rfl ?_
  repeat (first | refine sat_same ?_ | refine sat_impA ?_ | refine sat_need (by first | exact trivial | omega | exact ⟨by decide, by omega, by simp only [List.length_take, List.length_drop, MR.len_rows, ← hmU, Nat.sub_zero, Nat.min_self]; omega⟩ | exact ini (by omega) (by omega) | exact ⟨hmo, by rw [← hmo]; omega⟩ | exact ⟨hmo, by omega⟩ | (constructor <;> omega) | (refine ⟨?_, ?_, ?_⟩ <;> omega) | (refine ⟨?_, ?_, ?_, ?_⟩ <;> omega) | first | exact trivial | omega | exact ini (by omega) (by omega) | (intro hh; simp at hh; exact ini (by omega) (by omega)) | (intro hh; simp at hh ⊢; omega) | (simp at *; omega) | (simp_all; done)) ?_)
  refine sat_done (exS_normal (ev_seq (ev_block ?_)))
  refine ev_loopK (ι := {m : Nat // (lim (a * 2 ^ shN b)).length ≤ m ∧ m ≤ ((lim a).length + 1)}) [0, 6, 7, 8] [] 450 (fun x => [(9, .mw 315 ((lim a).length + 1) 0 1 x.1)]) (fun x => [(315, .mrow 48 1 (.map (limN ((lim a).length + 1) (a * 2 ^ shN b)) uD 0))]) (fun x => ((lim a).length + 1) - x.1) ⟨(lim (a * 2 ^ shN b)).length, Nat.le_refl _, hml⟩ ?_
  refine ⟨⟨le_t, le_o, rfl, rfl⟩, fun x => ?_⟩
  have hx1 := x.2.1
  have hx2 := x.2.2
  refine ev_seq ?_
  refine ev_seq (ev_region tabT [] 500 rfl ?_)
  repeat (first | refine sat_same ?_ | refine sat_impA ?_ | refine sat_need (by first | exact trivial | omega | exact ⟨by decide, by omega, by simp only [List.length_take, List.length_drop, MR.len_rows, ← hmU, Nat.sub_zero, Nat.min_self]; omega⟩ | exact ini (by omega) (by omega) | exact ⟨hmo, by rw [← hmo]; omega⟩ | exact ⟨hmo, by omega⟩ | (constructor <;> omega) | (refine ⟨?_, ?_, ?_⟩ <;> omega) | (refine ⟨?_, ?_, ?_, ?_⟩ <;> omega) | first | exact trivial | omega | exact ini (by omega) (by omega) | (intro hh; simp at hh; exact ini (by omega) (by omega)) | (intro hh; simp at hh ⊢; omega) | (simp at *; omega) | (simp_all; done)) ?_)
  refine sat_done (exS_normal (ev_if (fun c4 => ?_) (fun c4 => ?_)))
  ·
    refine ev_skip (exS_normal (ev_block ?_))
    refine ev_region tabT [] 600 rfl ?_
    repeat (first | refine sat_same ?_ | refine sat_impA ?_ | refine sat_need (by first | exact ⟨by rw [MR.len, limN_len], by omega⟩ | (rw [MR.len, limN_len]) | first | exact trivial | omega | exact ⟨by decide, by omega, by simp only [List.length_take, List.length_drop, MR.len_rows, ← hmU, Nat.sub_zero, Nat.min_self]; omega⟩ | exact ini (by omega) (by omega) | exact ⟨hmo, by rw [← hmo]; omega⟩ | exact ⟨hmo, by omega⟩ | (constructor <;> omega) | (refine ⟨?_, ?_, ?_⟩ <;> omega) | (refine ⟨?_, ?_, ?_, ?_⟩ <;> omega) | first | exact trivial | omega | exact ini (by omega) (by omega) | (intro hh; simp at hh; exact ini (by omega) (by omega)) | (intro hh; simp at hh ⊢; omega) | (simp at *; omega) | (simp_all; done)) ?_)
    refine sat_done (exBl_normal ?_)
    exact exL_normal ⟨x.1 + 1, by omega, by omega⟩ ⟨⟨Sub.mw rfl rfl rfl, le_t⟩, ⟨SubO.mr (by have hz : (a * 2 ^ shN b) < 4294967296 ^ x.1 := Nat.lt_of_lt_of_le (lim_lt _) (Nat.pow_le_pow_right (by decide) hx1); show (List.map uD (limN ((lim a).length + 1) (a * 2 ^ shN b))).set x.1 (uD 0) = List.map uD (limN ((lim a).length + 1) (a * 2 ^ shN b)); rw [← List.map_set, set_self (limN_zero hz)]), le_o⟩, rfl, rfl⟩ (by show ((lim a).length + 1) - (x.1 + 1) < ((lim a).length + 1) - x.1; omega)
  ·
    refine ev_exit (exS_exit (exL_exit (exBl_same (exS_normal ?_))))
    refine ev_tell [6, 7, 8] [] 510 [(9, .mw 315 ((lim a).length + 1) 0 1 ((lim a).length + 1))] [(315, .mrow 48 1 (.map (limN ((lim a).length + 1) (a * 2 ^ shN b)) uD 0))] ?_
    refine ⟨⟨⟨Sub.mw rfl rfl (by have := x.2.2; omega), le_t⟩, le_o, rfl, rfl⟩, ?_⟩
    refine ev_seq (ev_region tabT [1038] 700 rfl ?_)
    repeat (first | refine sat_same ?_ | refine sat_impA ?_ | refine sat_need (by first | exact trivial | omega | exact ⟨by decide, by omega, by simp only [List.length_take, List.length_drop, MR.len_rows, ← hmU, Nat.sub_zero, Nat.min_self]; omega⟩ | exact ini (by omega) (by omega) | exact ⟨hmo, by rw [← hmo]; omega⟩ | exact ⟨hmo, by omega⟩ | (constructor <;> omega) | (refine ⟨?_, ?_, ?_⟩ <;> omega) | (refine ⟨?_, ?_, ?_, ?_⟩ <;> omega) | first | exact trivial | omega | exact ini (by omega) (by omega) | (intro hh; simp at hh; exact ini (by omega) (by omega)) | (intro hh; simp at hh ⊢; omega) | (simp at *; omega) | (simp_all; done)) ?_)
    refine sat_done (exS_normal ?_)
    refine ev_tell [6, 7, 8, 9] [315] 710 [(10, .mo 514 ((lim a).length + 1 - (lim b).length))] [(514, .mrow 48 1 (.map (List.replicate ((lim a).length + 1 - (lim b).length) 0) uD 0))] ?_
    refine ⟨⟨⟨Sub.mo (by omega), le_t⟩, ⟨SubO.mr (by rw [zrows]; congr 3; omega), le_o⟩, rfl, rfl⟩, ?_⟩
    refine ev_seq ?_
    refine ev_seq (ev_region tabT [] 800 rfl ?_)
    repeat (first | refine sat_same ?_ | refine sat_impA ?_ | refine sat_need (by first | exact trivial | omega | exact ⟨by decide, by omega, by simp only [List.length_take, List.length_drop, MR.len_rows, ← hmU, Nat.sub_zero, Nat.min_self]; omega⟩ | exact ini (by omega) (by omega) | exact ⟨hmo, by rw [← hmo]; omega⟩ | exact ⟨hmo, by omega⟩ | (constructor <;> omega) | (refine ⟨?_, ?_, ?_⟩ <;> omega) | (refine ⟨?_, ?_, ?_, ?_⟩ <;> omega) | first | exact trivial | omega | exact ini (by omega) (by omega) | (intro hh; simp at hh; exact ini (by omega) (by omega)) | (intro hh; simp at hh ⊢; omega) | (simp at *; omega) | (simp_all; done)) ?_)
    refine sat_done (exS_normal (ev_block ?_))
    refine ev_loopK (ι := DvL (limN ((lim a).length + 1) (a * 2 ^ shN b)) (lim (b * 2 ^ shN b)) ((lim a).length + 1 - (lim b).length) (lim b).length) [6, 7, 8, 9, 10] [] 850 (fun y => [(11, .v (.int .i64 ((y.k : Int) - 1)))]) (fun y => [(315, .mrow 48 1 (.map y.U uD 0)), (514, .mrow 48 1 (.map y.o uD 0))]) (fun y => y.k) (DvL.start (by rw [limN_len]; omega) (limN_Lg _ _) (by rw [L_dig]; exact htl)) ?_
    refine ⟨⟨⟨Sub.int (by show _ = ((((lim a).length + 1 - (lim b).length) : Nat) : Int) - 1; omega), le_t⟩, le_o, rfl, rfl⟩, fun y => ?_⟩
    have hyk := y.le
    have hyU := y.hU
    have hyo := y.ho
    have hkt : ((y.k : Int) - 1).toNat = y.k - 1 := by omega
    have hmo : ((lim a).length + 1 - (lim b).length) = (MR.map y.o uD 0).len := by rw [MR.len, hyo]
    have hmU : ((lim a).length + 1) = (MR.map y.U uD 0).len := by rw [MR.len, hyU]; omega
    refine ev_seq ?_
    refine ev_seq (ev_region tabT [] 900 rfl ?_)
    repeat (first | refine sat_same ?_ | refine sat_impA ?_ | refine sat_need (by first | exact trivial | omega | exact ⟨by decide, by omega, by simp only [List.length_take, List.length_drop, MR.len_rows, ← hmU, Nat.sub_zero, Nat.min_self]; omega⟩ | exact ini (by omega) (by omega) | exact ⟨hmo, by rw [← hmo]; omega⟩ | exact ⟨hmo, by omega⟩ | (constructor <;> omega) | (refine ⟨?_, ?_, ?_⟩ <;> omega) | (refine ⟨?_, ?_, ?_, ?_⟩ <;> omega) | first | exact trivial | omega | exact ini (by omega) (by omega) | (intro hh; simp at hh; exact ini (by omega) (by omega)) | (intro hh; simp at hh ⊢; omega) | (simp at *; omega) | (simp_all; done)) ?_)
    refine sat_done (exS_normal (ev_if (fun c8 => ?_) (fun c8 => ?_)))
    ·
      refine ev_skip (exS_normal (ev_seq (ev_block ?_)))
      refine ev_region tabT [1058] 1100 rfl ?_
      repeat (first | refine sat_same ?_ | refine sat_impA ?_ | refine sat_need (by first | exact trivial | omega | exact ⟨by decide, by omega, by simp only [List.length_take, List.length_drop, MR.len_rows, ← hmU, Nat.sub_zero, Nat.min_self]; omega⟩ | exact ini (by omega) (by omega) | exact ⟨hmo, by rw [← hmo]; omega⟩ | exact ⟨hmo, by omega⟩ | (constructor <;> omega) | (refine ⟨?_, ?_, ?_⟩ <;> omega) | (refine ⟨?_, ?_, ?_, ?_⟩ <;> omega) | first | exact trivial | omega | exact ini (by omega) (by omega) | (intro hh; simp at hh; exact ini (by omega) (by omega)) | (intro hh; simp at hh ⊢; omega) | (simp at *; omega) | (simp_all; done)) ?_)
      refine sat_fnH _ _ ((natDigit_G y.U (lim (b * 2 ^ shN b)) ((lim a).length + 1) (y.k - 1) (lim b).length (by rw [y.hU]; omega) (by omega) hsl hn y.gU gv hvt (y.facts gv hsl (by omega)).2.1 (by omega)).mw (by omega) (by omega)) rfl ?_
      repeat (first | refine sat_same ?_ | refine sat_impA ?_ | refine sat_need (by first | exact trivial | omega | exact ⟨by decide, by omega, by simp only [List.length_take, List.length_drop, MR.len_rows, ← hmU, Nat.sub_zero, Nat.min_self]; omega⟩ | exact ini (by omega) (by omega) | exact ⟨hmo, by rw [← hmo]; omega⟩ | exact ⟨hmo, by omega⟩ | (constructor <;> omega) | (refine ⟨?_, ?_, ?_⟩ <;> omega) | (refine ⟨?_, ?_, ?_, ?_⟩ <;> omega) | first | exact trivial | omega | exact ini (by omega) (by omega) | (intro hh; simp at hh; exact ini (by omega) (by omega)) | (intro hh; simp at hh ⊢; omega) | (simp at *; omega) | (simp_all; done)) ?_)
      refine sat_done (exBl_normal (exS_normal ?_))
      refine ev_region tabT [] 1200 rfl ?_
      repeat (first | refine sat_same ?_ | refine sat_impA ?_ | refine sat_need (by first | exact trivial | omega | exact ⟨by decide, by omega, by simp only [List.length_take, List.length_drop, MR.len_rows, ← hmU, Nat.sub_zero, Nat.min_self]; omega⟩ | exact ini (by omega) (by omega) | exact ⟨hmo, by rw [← hmo]; omega⟩ | exact ⟨hmo, by omega⟩ | (constructor <;> omega) | (refine ⟨?_, ?_, ?_⟩ <;> omega) | (refine ⟨?_, ?_, ?_, ?_⟩ <;> omega) | first | exact trivial | omega | exact ini (by omega) (by omega) | (intro hh; simp at hh; exact ini (by omega) (by omega)) | (intro hh; simp at hh ⊢; omega) | (simp at *; omega) | (simp_all; done)) ?_)
      refine sat_done ?_
      exact exL_normal (y.next gv hsl (by omega)) ⟨⟨Sub.int (by show (y.k : Int) - 1 - 1 = ((y.k - 1 : Nat) : Int) - 1; omega), le_t⟩, ⟨SubO.mr (by show List.map uD (wnC y.U (y.k - 1) _) = List.map uD y.R; rw [wnC_drop (n := (lim b).length) (by omega) (limN_len _ _)]; rfl), SubO.mr (by rw [hkt]; exact set_rows _ _ _), le_o⟩, rfl, rfl⟩ (by show y.k - 1 < y.k; omega)
    ·
      refine ev_exit (exS_exit (exL_exit (exBl_same (exS_normal ?_))))
      refine ev_freeze 514 rfl (by repeat (first | exact trivial | exact hmo | exact ⟨hmU, rfl⟩ | refine ⟨?_, ?_⟩)) (by repeat (first | exact trivial | refine ⟨?_, ?_⟩)) ?_
      refine ev_freeze 315 rfl (by repeat (first | exact trivial | exact hmo | exact ⟨hmU, rfl⟩ | refine ⟨?_, ?_⟩)) (by repeat (first | exact trivial | refine ⟨?_, ?_⟩)) ?_
      refine ev_seq (ev_drawn tabT [] [[], [0], [], [], [2, 3], [0, 1, 2, 3, 4], [], [0, 1, 2, 3, 4, 5, 6], [0, 1, 2, 3, 4, 5, 6, 7], [0, 1, 2, 3, 4, 5, 6, 7, 8]] 1200 mixT (by kernel_rfl) rfl ?_)
      repeat (first | refine sat_same ?_ | refine sat_impA ?_ | refine sat_need (by first | exact trivial | omega | exact ⟨by decide, by omega, by simp only [List.length_take, List.length_drop, MR.len_rows, ← hmU, Nat.sub_zero, Nat.min_self]; omega⟩ | exact ini (by omega) (by omega) | exact ⟨hmo, by rw [← hmo]; omega⟩ | exact ⟨hmo, by omega⟩ | (constructor <;> omega) | (refine ⟨?_, ?_, ?_⟩ <;> omega) | (refine ⟨?_, ?_, ?_, ?_⟩ <;> omega) | first | exact trivial | omega | exact ini (by omega) (by omega) | (intro hh; simp at hh; exact ini (by omega) (by omega)) | (intro hh; simp at hh ⊢; omega) | (simp at *; omega) | (simp_all; done)) ?_)
      refine sat_fn _ ((natTrim_ok y.o y.go (by omega)).args ⟨SubP.ownSl rfl, trivial⟩) rfl ?_
      repeat (first | refine sat_same ?_ | refine sat_impA ?_ | refine sat_need (by first | exact trivial | omega | exact ⟨by decide, by omega, by simp only [List.length_take, List.length_drop, MR.len_rows, ← hmU, Nat.sub_zero, Nat.min_self]; omega⟩ | exact ini (by omega) (by omega) | exact ⟨hmo, by rw [← hmo]; omega⟩ | exact ⟨hmo, by omega⟩ | (constructor <;> omega) | (refine ⟨?_, ?_, ?_⟩ <;> omega) | (refine ⟨?_, ?_, ?_, ?_⟩ <;> omega) | first | exact trivial | omega | exact ini (by omega) (by omega) | (intro hh; simp at hh; exact ini (by omega) (by omega)) | (intro hh; simp at hh ⊢; omega) | (simp at *; omega) | (simp_all; done)) ?_)
      refine sat_fn _ ((natTrim_ok (y.U.take (lim b).length) (y.gU.take _) (by rw [List.length_take]; omega)).args ⟨SubP.slrSl (cut_rows (by omega)), trivial⟩) rfl ?_
      repeat (first | refine sat_same ?_ | refine sat_impA ?_ | refine sat_need (by first | exact trivial | omega | exact ⟨by decide, by omega, by simp only [List.length_take, List.length_drop, MR.len_rows, ← hmU, Nat.sub_zero, Nat.min_self]; omega⟩ | exact ini (by omega) (by omega) | exact ⟨hmo, by rw [← hmo]; omega⟩ | exact ⟨hmo, by omega⟩ | (constructor <;> omega) | (refine ⟨?_, ?_, ?_⟩ <;> omega) | (refine ⟨?_, ?_, ?_, ?_⟩ <;> omega) | first | exact trivial | omega | exact ini (by omega) (by omega) | (intro hh; simp at hh; exact ini (by omega) (by omega)) | (intro hh; simp at hh ⊢; omega) | (simp at *; omega) | (simp_all; done)) ?_)
      refine sat_fn _ (natRight_ok _ (shN b) (by refine Nat.le_trans (lim_length_le (L_lt (y.gU.take _))) (by rw [List.length_take]; omega)) (by omega)) rfl ?_
      repeat (first | refine sat_same ?_ | refine sat_impA ?_ | refine sat_need (by first | exact trivial | omega | exact ⟨by decide, by omega, by simp only [List.length_take, List.length_drop, MR.len_rows, ← hmU, Nat.sub_zero, Nat.min_self]; omega⟩ | exact ini (by omega) (by omega) | exact ⟨hmo, by rw [← hmo]; omega⟩ | exact ⟨hmo, by omega⟩ | (constructor <;> omega) | (refine ⟨?_, ?_, ?_⟩ <;> omega) | (refine ⟨?_, ?_, ?_, ?_⟩ <;> omega) | first | exact trivial | omega | exact ini (by omega) (by omega) | (intro hh; simp at hh; exact ini (by omega) (by omega)) | (intro hh; simp at hh ⊢; omega) | (simp at *; omega) | (simp_all; done)) ?_)
      refine sat_done (exS_normal (ev_ret ?_))
      obtain ⟨e1, e2⟩ := y.fin (by omega) gv hsl
      rw [V_limN hXl, L_dig] at e1 e2
      rw [sh_div] at e1
      exact FinV.ret rfl (SubP.tup ⟨SubP.of_eq (by rw [e1]), SubP.of_eq (by rw [e2, sh_mod]), trivial⟩)
end Go.Proofs.YtnkjenaanjnihaaGreatDoor


/- Ratios as the document writes them: pairs in lowest terms; the floor of a ratio. Plain law. -/
namespace Go.Proofs.YtnkjenaanjnihaaGreatDoor
theorem floor_unique {x y q r : Int} (h : r + y * q = x) (hr : (0 < y ∧ 0 ≤ r ∧ r < y) ∨ (y < 0 ∧ r ≤ 0 ∧ y < r)) : Int.fdiv x y = q := by
  rcases hr with ⟨h0, h1, h2⟩ | ⟨h0, h1, h2⟩
  · rw [Int.fdiv_eq_ediv_of_nonneg _ (by omega)]
    exact ((Int.ediv_emod_unique h0).2 ⟨h, h1, h2⟩).1
  · have e : Int.fdiv x y = Int.fdiv (-x) (-y) := by simp
    rw [e, Int.fdiv_eq_ediv_of_nonneg _ (by omega)]
    refine ((Int.ediv_emod_unique (r := -r) (by omega)).2 ⟨?_, by omega, by omega⟩).1
    rw [Int.neg_mul]; omega
end Go.Proofs.YtnkjenaanjnihaaGreatDoor


/- Walks by the evaluator: quotients and rests of the program: naturals, integers; ranges. -/
namespace Go.Proofs.YtnkjenaanjnihaaGreatDoor
open Go.RowKit
variable {md me : Bool}
theorem one_limb {b : Nat} (h : (lim b).length = 1) : (lim b).getD 0 0 = b := by
  have h1 := top_V (l := lim b) (n := 0) h
  rw [L_dig, Nat.pow_zero, Nat.one_mul] at h1
  simpa [VL] using h1.symm
theorem lim_one_r (r : Nat) : VL [r] = r := by rw [L_cons, L_nil]; rfl
theorem natDivMod0_ok (a b : Nat) (ha : (lim a).length ≤ 100000) (hb : (lim b).length ≤ 100000) (h0 : 0 < b) : Fn Tryz.prog 145 [usD (lim a), usD (lim b)] (.tup [usD (lim (a / b)), usD (lim (a % b))]) := by
  have hneg := cmpL_neg a b
  have hbp : 0 < (lim b).length := List.length_pos_iff.2 (fun h => by rw [lim_nil] at h; omega)
  refine fn_ev tabT Tryz.func145 rfl rfl rfl rfl rfl rfl ?_
  intro w0 s0 mx
  refine ev_R tabT [] 100 ?_
  refine ev_seq ?_
  refine ev_seq (ev_region tabT [] 200 rfl ?_)
  refine sat_go ?_
  refine sat_fn _ (natCompare_ok a b (by omega) (by omega)) rfl ?_
  refine sat_go ?_
  refine sat_done (exS_normal (ev_if (fun c1 => ?_) (fun c1 => ?_)))
  ·
    refine ev_seq (ev_region tabT [13] 300 rfl ?_)
    refine sat_go ?_
    refine sat_fnO _ _ _ (CloneU_ok (lim a) (by omega)) ?_
    refine sat_go ?_
    refine sat_done (exS_normal (ev_ret (exS_ret ?_)))
    exact FinV.ret rfl (SubP.tup ⟨by rw [Nat.div_eq_of_lt (hneg.1 (by omega)), lim_zero]; exact SubP.nilSl rfl, SubP.ownSl (by rw [Nat.mod_eq_of_lt (hneg.1 (by omega))]), trivial⟩)
  ·
    refine ev_skip (exS_normal (ev_seq (ev_R tabT [] 400 ?_)))
    refine ev_if (fun c3 => ?_) (fun c3 => ?_)
    ·
      refine ev_seq (ev_region tabT [] 500 rfl ?_)
      repeat (first | refine sat_same ?_ | refine sat_impA ?_ | refine sat_need (by first | exact ⟨by decide, by show 0 < _; omega⟩ | first | exact trivial | omega | exact ini (by omega) (by omega) | (intro hh; simp at hh; exact ini (by omega) (by omega)) | (intro hh; simp at hh ⊢; omega) | (simp at *; omega) | (simp_all; done)) ?_)
      refine sat_fn _ (natShort_ok a ((lim b).getD 0 0) (by omega) (by have e := one_limb (b := b) (by omega); omega) (lg_at (lim_Dg b) _)) rfl ?_
      repeat (first | refine sat_same ?_ | refine sat_impA ?_ | refine sat_need (by first | exact ⟨by decide, by show 0 < _; omega⟩ | first | exact trivial | omega | exact ini (by omega) (by omega) | (intro hh; simp at hh; exact ini (by omega) (by omega)) | (intro hh; simp at hh ⊢; omega) | (simp at *; omega) | (simp_all; done)) ?_)
      refine sat_done (exS_normal ?_)
      refine ev_seq (ev_region tabT [] 600 rfl ?_)
      refine sat_go ?_
      refine sat_fn _ ((natTrim_ok [a % (lim b).getD 0 0] (fun x hx => by have e := List.mem_singleton.1 hx; subst e; exact Nat.lt_of_lt_of_le (Nat.mod_lt _ (by have e := one_limb (b := b) (by omega); omega)) (Nat.le_of_lt (lg_at (lim_Dg b) _))) (by show 1 ≤ 100000000; omega)).args ⟨SubP.slrSl rfl, trivial⟩) rfl ?_
      refine sat_go ?_
      refine sat_done (exS_normal (ev_ret (exS_ret ?_)))
      have e := one_limb (b := b) (by omega)
      exact FinV.ret rfl (SubP.tup ⟨SubP.of_eq (by rw [e]), SubP.of_eq (by rw [e, lim_one_r]), trivial⟩)
    ·
      refine ev_skip (exS_normal ?_)
      refine ev_seq (ev_region tabT [] 700 rfl ?_)
      refine sat_go ?_
      refine sat_fn _ (natDivide_ok a b (by omega) (by omega) (lim_len_mono (by omega))) rfl ?_
      refine sat_go ?_
      refine sat_done (exS_normal (ev_ret ?_))
      exact FinV.ret rfl (SubP.refl _)
theorem natDivMod_ok (a b : Nat) (ha : (lim a).length ≤ 600) (hb : (lim b).length ≤ 600) (h0 : 0 < b) : Fn Tryz.prog 117 [usD (lim a), usD (lim b)] (.tup [usD (lim (a / b)), usD (lim (a % b)), faD 0 0]) := by
  have hbp : 0 < (lim b).length := List.length_pos_iff.2 (fun h => by rw [lim_nil] at h; omega)
  refine fn_ev tabT Tryz.func117 rfl rfl rfl rfl rfl rfl ?_
  intro w0 s0 mx
  refine ev_R tabT [] 100 ?_
  refine ev_seq ?_
  refine ev_seq (ev_region tabT [] 200 rfl ?_)
  refine sat_go ?_
  refine sat_fn _ (natCheck_ok a b ha hb) rfl ?_
  refine sat_go ?_
  refine sat_done (exS_normal (ev_R tabT [] 300 ?_))
  refine ev_if (fun c2 => ?_) (fun c2 => ?_)
  ·
    exact absurd c2 (by decide)
  ·
    refine ev_skip (exS_normal (ev_seq (ev_R tabT [] 500 ?_)))
    refine ev_if (fun c4 => ?_) (fun c4 => ?_)
    ·
      exact absurd c4 (by omega)
    ·
      refine ev_skip (exS_normal ?_)
      refine ev_seq (ev_region tabT [] 700 rfl ?_)
      refine sat_go ?_
      refine sat_fn _ (natDivMod0_ok a b (by omega) (by omega) h0) rfl ?_
      refine sat_go ?_
      refine sat_done (exS_normal (ev_R tabT [] 800 ?_))
      refine ev_ret ?_
      exact FinV.ret rfl (SubP.refl _)
def dmQ (s t : Bool) (x y : Nat) : Nat := if s ≠ t ∧ 0 < x % y then x / y + 1 else x / y
def dmR (s t : Bool) (x y : Nat) : Nat := if s ≠ t ∧ 0 < x % y then y - x % y else x % y
theorem dm_Z {s t : Bool} {x y : Nat} (hy : 0 < y) : ZI (s != t) (dmQ s t x y) = Int.fdiv (ZI s x) (ZI t y) ∧ ZI t (dmR s t x y) = Int.fmod (ZI s x) (ZI t y) := by
  have hm := Nat.mod_lt x hy
  have hd := Nat.div_add_mod x y
  have key : ∀ q r : Int, r + ZI t y * q = ZI s x → ((0 < ZI t y ∧ 0 ≤ r ∧ r < ZI t y) ∨ (ZI t y < 0 ∧ r ≤ 0 ∧ ZI t y < r)) → q = Int.fdiv (ZI s x) (ZI t y) ∧ r = Int.fmod (ZI s x) (ZI t y) := by
    intro q r h1 h2
    have h3 := floor_unique h1 h2
    refine ⟨h3.symm, ?_⟩
    have h4 := Int.mul_fdiv_add_fmod (ZI s x) (ZI t y)
    rw [h3] at h4
    omega
  refine key _ _ ?_ ?_
  · unfold dmQ dmR
    generalize x % y = r at *
    generalize x / y = q at *
    have hq : (y : Int) * ((q : Nat) : Int) + (r : Int) = (x : Int) := by rw [← Int.natCast_mul, ← Int.natCast_add, hd]
    cases s <;> cases t <;> unfold ZI <;> simp only [ne_eq, not_true_eq_false, false_and, if_false, not_false_eq_true, true_and, reduceCtorEq, if_true, Bool.false_eq_true, bne_self_eq_false, show (false != true) = true from rfl, show (true != false) = true from rfl]
    · omega
    · by_cases hr : 0 < r
      · rw [if_pos hr, if_pos hr]
        push_cast
        simp only [Int.neg_mul, Int.mul_neg, Int.neg_neg, Int.mul_add, Int.mul_one]
        omega
      · rw [if_neg hr, if_neg hr]
        simp only [Int.neg_mul, Int.mul_neg, Int.neg_neg]
        omega
    · by_cases hr : 0 < r
      · rw [if_pos hr, if_pos hr]
        push_cast
        simp only [Int.neg_mul, Int.mul_neg, Int.neg_neg, Int.mul_add, Int.mul_one]
        omega
      · rw [if_neg hr, if_neg hr]
        simp only [Int.neg_mul, Int.mul_neg, Int.neg_neg]
        omega
    · simp only [Int.neg_mul, Int.mul_neg, Int.neg_neg]
      omega
  · unfold dmR
    generalize x % y = r at *
    cases s <;> cases t <;> unfold ZI <;> simp only [ne_eq, not_true_eq_false, false_and, if_false, not_false_eq_true, true_and, reduceCtorEq, if_true, Bool.false_eq_true, bne_self_eq_false, show (false != true) = true from rfl, show (true != false) = true from rfl]
    · omega
    · by_cases hr : 0 < r
      · rw [if_pos hr]; omega
      · rw [if_neg hr]; omega
    · by_cases hr : 0 < r
      · rw [if_pos hr]; omega
      · rw [if_neg hr]; omega
    · omega
theorem dmQ_le {s t : Bool} {x y : Nat} (hy : 0 < y) : dmQ s t x y ≤ x := by
  unfold dmQ
  have h1 := Nat.div_add_mod x y
  have h2 := Nat.mod_lt x hy
  split
  · rename_i h
    have h3 : 1 < y := by omega
    rcases Nat.eq_zero_or_pos (x / y) with h4 | h4
    · omega
    · have h5 : 2 * (x / y) ≤ y * (x / y) := Nat.mul_le_mul_right _ h3
      omega
  · exact Nat.div_le_self _ _
theorem dmR_lt {s t : Bool} {x y : Nat} (hy : 0 < y) : dmR s t x y ≤ y := by
  unfold dmR
  have h2 := Nat.mod_lt x hy
  split <;> omega
end Go.Proofs.YtnkjenaanjnihaaGreatDoor


/- Walks by the evaluator: integers of the program: DivMod, Of; ranges. -/
namespace Go.Proofs.YtnkjenaanjnihaaGreatDoor
open Go.RowKit
variable {md me : Bool}
theorem lim_1 : lim 1 = [1] := by rw [lim_pos (by decide), show 1 / 4294967296 = 0 by decide, lim_zero]
theorem intSigned_z (b : Bool) (n : Nat) (h : (lim n).length ≤ 128) : Fn Tryz.prog 140 [.v (.bool b), usD (lim n)] (.tup [.agg (zV (ZI b n)), faD 0 0]) := by
  have := intSigned_ok b (lim n)
  rw [sg_z h] at this
  exact this
theorem len_posL {n : Nat} (h : 0 < ((lim n).length : Int)) : 0 < n := by
  rcases Nat.eq_zero_or_pos n with h0 | h0
  · subst h0; rw [lim_zero] at h; exact absurd h (by decide)
  · exact h0
theorem len_nposL {n : Nat} (h : ¬ 0 < ((lim n).length : Int)) : n = 0 := by
  rcases Nat.eq_zero_or_pos n with h0 | h0
  · exact h0
  · have : (lim n) ≠ [] := fun e => by rw [lim_nil] at e; omega
    have := List.length_pos_iff.2 this
    omega
theorem dm_T {s t : Bool} {x y : Nat} (h : (s != t) = true ∧ 0 < ((lim (x % y)).length : Int)) : dmQ s t x y = x / y + 1 ∧ dmR s t x y = y - x % y := by
  have h1 : s ≠ t := by simpa using h.1
  have h2 := len_posL h.2
  exact ⟨by rw [dmQ, if_pos ⟨h1, h2⟩], by rw [dmR, if_pos ⟨h1, h2⟩]⟩
theorem dm_F {s t : Bool} {x y : Nat} (h : ((s != t) && decide (0 < ((lim (x % y)).length : Int))) = false) : dmQ s t x y = x / y ∧ dmR s t x y = x % y := by
  have h1 : ¬ (s ≠ t ∧ 0 < x % y) := by
    rintro ⟨h1, h2⟩
    have h3 : (s != t) = true := by simpa using h1
    rw [h3, Bool.true_and, decide_eq_false_iff_not] at h
    have := len_nposL h
    omega
  exact ⟨by rw [dmQ, if_neg h1], by rw [dmR, if_neg h1]⟩
theorem lim_le128 {x y : Nat} (h : x ≤ y) (hy : (lim y).length ≤ 128) : (lim x).length ≤ 128 := Nat.le_trans (lim_len_mono h) hy
theorem intDivMod_ok (a b : Int) (ha : (lim a.natAbs).length ≤ 128) (hb : (lim b.natAbs).length ≤ 128) (h0 : b ≠ 0) : Fn Tryz.prog 114 [.agg (zV a), .agg (zV b)] (.tup [.agg (zV (Int.fdiv a b)), .agg (zV (Int.fmod a b)), faD 0 0]) := by
  have hy : 0 < b.natAbs := by omega
  obtain ⟨d1, d2⟩ := dm_Z (s := (decide (a < 0))) (t := (decide (b < 0))) (x := a.natAbs) hy
  rw [ZI_of, ZI_of] at d1 d2
  have hQ : a.natAbs / b.natAbs ≤ a.natAbs := Nat.div_le_self _ _
  have hR : a.natAbs % b.natAbs ≤ b.natAbs := Nat.le_of_lt (Nat.mod_lt _ hy)
  refine fn_ev tabT Tryz.func114 rfl rfl rfl rfl rfl rfl ?_
  intro w0 s0 mx
  refine ev_R tabT [] 100 ?_
  refine ev_seq ?_
  refine ev_seq (ev_region tabT [] 200 rfl ?_)
  refine sat_go ?_
  refine sat_fn _ ((intCheck_ok [(decide (a < 0), lim a.natAbs), (decide (b < 0), lim b.natAbs)] (zOks ha hb) (by show 2 ≤ 100; omega)).args ⟨SubP.slrSl rfl, trivial⟩) rfl ?_
  refine sat_go ?_
  refine sat_done (exS_normal (ev_R tabT [] 300 ?_))
  refine ev_if (fun c2 => ?_) (fun c2 => ?_)
  ·
    exact absurd c2 (by decide)
  ·
    refine ev_skip (exS_normal ?_)
    refine ev_seq (ev_region tabT [] 500 rfl ?_)
    refine sat_go ?_
    refine sat_fn _ (natDivMod_ok a.natAbs b.natAbs (by omega) (by omega) hy) rfl ?_
    refine sat_go ?_
    refine sat_done (exS_normal (ev_seq (ev_R tabT [] 600 ?_)))
    refine ev_if (fun c5 => ?_) (fun c5 => ?_)
    ·
      exact absurd c5 (by decide)
    ·
      refine ev_skip (exS_normal (ev_seq (ev_R tabT [] 800 ?_)))
      refine ev_if (fun c7 => ?_) (fun c7 => ?_)
      ·
        obtain ⟨hqe, hre⟩ := dm_T c7
        refine ev_seq (ev_region tabT [] 900 rfl ?_)
        refine sat_go ?_
        refine sat_fn _ ((natAdd_ok _ 1 (by have := lim_le128 hQ ha; omega) (by rw [lim_1]; decide) (by have := lim_le128 (x := a.natAbs / b.natAbs + 1) (by rw [← hqe]; exact dmQ_le hy) ha; omega)).args ⟨SubP.refl _, SubP.slrSl (by rw [lim_1]; rfl), trivial⟩) rfl ?_
        refine sat_go ?_
        refine sat_done (exS_normal ?_)
        refine ev_region tabT [] 1000 rfl ?_
        refine sat_go ?_
        refine sat_fn _ (natSub_ok _ _ (by omega) (by have := lim_le128 hR hb; omega) hR) rfl ?_
        refine sat_go ?_
        refine sat_done (exS_normal ?_)
        refine ev_seq (ev_region tabT [] 1100 rfl ?_)
        refine sat_go ?_
        refine sat_fn _ (intSigned_z _ (a.natAbs / b.natAbs + 1) (lim_le128 (by first | exact hQ | (rw [← hqe]; exact dmQ_le hy)) ha)) rfl ?_
        refine sat_go ?_
        refine sat_done (exS_normal (ev_seq (ev_R tabT [] 1200 ?_)))
        refine ev_if (fun c11 => ?_) (fun c11 => ?_)
        ·
          exact absurd c11 (by decide)
        ·
          refine ev_skip (exS_normal ?_)
          refine ev_seq (ev_region tabT [] 1400 rfl ?_)
          refine sat_go ?_
          refine sat_fn _ (intSigned_z _ (b.natAbs - a.natAbs % b.natAbs) (lim_le128 (by first | exact hR | (rw [← hre]; exact dmR_lt hy)) hb)) rfl ?_
          refine sat_go ?_
          refine sat_done (exS_normal ?_)
          refine ev_seq (ev_drawn tabT [] [[], [], [], [0], [0, 1, 3], [0, 1, 2, 3, 4]] 1500 mixT (by kernel_rfl) rfl ?_)
          refine sat_go ?_
          refine sat_done (exS_normal (ev_ret ?_))
          exact FinV.ret rfl (SubP.tup ⟨SubP.of_eq (by rw [← hqe]; exact congrArg (fun z => D.agg (zV z)) d1), SubP.of_eq (by rw [← hre]; exact congrArg (fun z => D.agg (zV z)) d2), SubP.refl _, trivial⟩)
      ·
        refine ev_skip (exS_normal ?_)
        refine ev_seq (ev_region tabT [] 1100 rfl ?_)
        refine sat_go ?_
        refine sat_fn _ (intSigned_z _ (a.natAbs / b.natAbs) (lim_le128 (by first | exact hQ | (rw [← hqe]; exact dmQ_le hy)) ha)) rfl ?_
        refine sat_go ?_
        refine sat_done (exS_normal (ev_seq (ev_R tabT [] 1200 ?_)))
        refine ev_if (fun c11 => ?_) (fun c11 => ?_)
        ·
          exact absurd c11 (by decide)
        ·
          refine ev_skip (exS_normal ?_)
          refine ev_seq (ev_region tabT [] 1400 rfl ?_)
          refine sat_go ?_
          refine sat_fn _ (intSigned_z _ (a.natAbs % b.natAbs) (lim_le128 (by first | exact hR | (rw [← hre]; exact dmR_lt hy)) hb)) rfl ?_
          refine sat_go ?_
          refine sat_done (exS_normal ?_)
          refine ev_seq (ev_drawn tabT [] [[], [], [], [0], [0, 1, 3], [0, 1, 2, 3, 4]] 1500 mixT (by kernel_rfl) rfl ?_)
          refine sat_go ?_
          refine sat_done (exS_normal (ev_ret ?_))
          obtain ⟨hqe, hre⟩ := dm_F c7
          exact FinV.ret rfl (SubP.tup ⟨SubP.of_eq (by rw [← hqe]; exact congrArg (fun z => D.agg (zV z)) d1), SubP.of_eq (by rw [← hre]; exact congrArg (fun z => D.agg (zV z)) d2), SubP.refl _, trivial⟩)
theorem lim_add_le {x y k : Nat} (hx : (lim x).length ≤ k) (hy : (lim y).length ≤ k) : (lim (x + y)).length ≤ k + 1 := by
  have h1 := Nat.lt_of_lt_of_le (lim_lt x) (Nat.pow_le_pow_right (by decide) hx)
  have h2 := Nat.lt_of_lt_of_le (lim_lt y) (Nat.pow_le_pow_right (by decide) hy)
  refine lim_length_le ?_
  rw [Nat.pow_succ]
  generalize 4294967296 ^ k = B at *
  omega
end Go.Proofs.YtnkjenaanjnihaaGreatDoor


/- Walks by the evaluator: special methods. -/
namespace Go.Proofs.YtnkjenaanjnihaaGreatDoor
open Go.RowKit
variable {md me : Bool}
end Go.Proofs.YtnkjenaanjnihaaGreatDoor


/-
  DERIVED: THE SHELF's CONTRACTS AT THIS DUMP, IN PLAIN WORDS (tools/lay-plain.mjs out of 'YtnkjenaanjnihaaGreatDoorShelf3.lean', which tools/lay-shelf.mjs wrote): THE SAME DECLARATIONS UNDER THE SAME NAMES: 'import', 'namespace', 'open', 'def', 'theorem' AND NOTHING ELSE: no command of the shelf's: FOR A HAND-IN. Each laying: the table of numbers ('.._ren') and one theorem, a field a fact of the dump's own or the kernel's comparison; each contract: ONE APPLICATION.
-/
namespace Go.Proofs
open Go.Shelf
end Go.Proofs


/- slices.Grow of nil: an empty row of its own. -/
namespace Go.Proofs.YtnkjenaanjnihaaGreatDoor
open Go.RowKit Go.Shelf
theorem grow_O {P : Program} {f : FuncId} {e : TypeId} {sz : Nat} (hb : Bod P f) (n : Nat)
    (h0 : n = 0 → ∀ w, Calls P f #[.slice none 0 0, .int .i64 n] w fun r w' => r = .returned (.slice none 0 0) ∧ w' = w)
    (h1 : 0 < n → ∀ w : World, Calls P f #[.slice none 0 0, .int .i64 n] w fun r w' => ∃ (cur : Array Value) (G : Nat), r = .returned (.slice (some ⟨w.heap.size, 0, none⟩) 0 G) ∧ w' = w.drew.alloc (.cells cur e) ∧ cur.size = G * sz ∧ G ≤ maxLen) :
    FnO P f [.v (.slice none 0 0), .v (.int .i64 n)] e sz [] := by
  refine ⟨hb, fun w s vs hlt _ hv => ?_⟩
  match vs, hv with
  | [a, b], ⟨ha, hb', _⟩ =>
    have ha : a = .slice none 0 0 := ha
    have hb' : b = .int .i64 n := hb'
    subst ha hb'
    rcases Nat.eq_zero_or_pos n with hn | hn
    · refine (h0 hn w).mono fun r w' hq => ?_
      obtain ⟨rfl, rfl⟩ := hq
      refine ⟨s, ⟨fun _ => none, fun k m => if k = 0 ∧ m = 0 then some (.slice none 0 0) else none⟩, 0, .slice none 0 0, rfl, ?_, ⟨fun m hm => ?_, _, rfl, .inl ⟨rfl, rfl⟩⟩, fun N hN => ?_, ⟨Ex.refl _ _, hlt, rfl, rfl, rfl, Nat.le_refl _, fun _ _ => rfl, fun _ _ h => .inl h, fun _ _ h => .inl h⟩⟩
      · rw [TV.P]
        exact ⟨⟨none, 0, rfl, Nat.le_refl _, by omega, (fun _ h => by cases h), fun i row h => by simp [D.pvss] at h⟩, rfl⟩
      · have hm : 0 < m := hm
        exact if_neg (by omega)
      · cases hN
    · refine (h1 hn w).mono fun r w' hq => ?_
      obtain ⟨cur, G, rfl, rfl, hc, hG⟩ := hq
      have hnew : (w.drew.alloc (.cells cur e)).heap[w.heap.size]? = some (.cells cur e (0, 0)) := heap_alloc_new w.drew _
      have hold : ∀ N, N < w.heap.size → (w.drew.alloc (.cells cur e)).heap[N]? = w.heap[N]? := fun N hN => heap_alloc_old w.drew _ hN
      have hsz : (w.drew.alloc (.cells cur e)).heap.size = w.heap.size + 1 := by
        show (w.drew.heap.push _).size = _
        rw [Array.size_push]; rfl
      refine ⟨s, ⟨fun _ => none, fun k m => if k = 0 ∧ m = 0 then some (.slice (some ⟨w.heap.size, 0, none⟩) 0 G) else none⟩, 0, .slice (some ⟨w.heap.size, 0, none⟩) 0 G, rfl, ?_, ⟨fun m hm => ?_, _, rfl, .inr ⟨w.heap.size, G, cur, rfl, .of hnew, Nat.zero_le _, hG, hc, fun o _ h => ?_⟩⟩, fun N hN => ?_, ⟨⟨fun _ _ h => h, fun b o hs => cell_block (hold b (hlt b o hs)), fun _ _ h => h⟩, fun B o h => ?_, rfl, rfl, rfl, by omega, hold, fun _ _ h => .inl h, fun _ _ h => .inl h⟩⟩
      · rw [TV.P]
        exact ⟨⟨_, G, rfl, Nat.zero_le _, by unfold maxLen at hG; omega, (fun _ h => by cases h), fun i row h => by simp [D.pvss] at h⟩, rfl⟩
      · have hm : 0 < m := hm
        exact if_neg (by omega)
      · have := hlt _ _ h; omega
      · have hN : some w.heap.size = some N := hN
        cases hN; exact Nat.le_refl _
      · have := hlt B o h; omega
end Go.Proofs.YtnkjenaanjnihaaGreatDoor


/- Walks by the evaluator: values joined; attempts of special methods. -/
namespace Go.Proofs.YtnkjenaanjnihaaGreatDoor
open Go.RowKit
variable {md me : Bool}
def st0 : St := ⟨0, vl0, 0, ByteArray.empty, vl0, []⟩
theorem SubP.slrRows {α : Type} {m : Bool} {sz : Nat} {rows : List (List D)} {l : List α} {f : α → List D} {e : α} (h : RowsP rows (l.map f)) : SubP (.slr m sz rows) (.sl m sz l f e) := fun w s v hv => by
  have h1 := rowsP_sl (m := m) (sz := sz) h (w := w) (s := s) (v := v) hv
  rw [pvss_map, List.map_map] at h1
  exact h1
end Go.Proofs.YtnkjenaanjnihaaGreatDoor


/- Walks by the evaluator: numbers of the document and of the program. -/
namespace Go.Proofs.YtnkjenaanjnihaaGreatDoor
open Go.RowKit
variable {md me : Bool}
def rD (b : Bool) (n : Nat) : D := .agg [.v (.bool b), natD n]
def qD (b : Bool) (n d : Nat) : D := .agg [.v (.bool b), natD n, natD d]
def zeroB : ByteArray := ⟨#[100, 105, 118, 105, 115, 105, 111, 110, 32, 98, 121, 32, 122, 101, 114, 111]⟩
def flS (c : Int) : St := if c = 0 then st0 else if c = 22 then raS 41 zeroB else raS 42 tooB
def whS (b : Bool) (l : List Nat) (c : Int) : St := if c = 0 then vlS ⟨2, b, l, false, [], ByteArray.empty, 0⟩ else flS c
theorem IntOf3_ok (b : Bool) (l : List Nat) (hg : Lg l) (hl : l.length ≤ 100000000) : Fn Tryz.prog 24 [.agg [.v (.bool b), usD l]] (rD b (VL l)) := by
  refine fn_ev tabT Tryz.func24 rfl rfl rfl rfl rfl rfl ?_
  intro w0 s0 mx
  refine ev_R tabT [] 100 ?_
  refine ev_seq (ev_drawn tabT [] [[], [0], [], [2], [2, 3], [0, 1, 2, 3, 4], [0, 1, 2, 3, 4, 5]] 200 mixT (by kernel_rfl) rfl ?_)
  refine sat_go ?_
  refine sat_fn _ (Of3_ok _ (by first | assumption | omega | (simp_all; done)) (by first | assumption | omega | (simp_all; done))) rfl ?_
  refine sat_go ?_
  refine sat_done (exS_normal (ev_ret ?_))
  exact FinV.ret rfl (SubP.refl _)
theorem RatioOf_ok (b c : Bool) (l m : List Nat) (hg : Lg l) (hl : l.length ≤ 100000000) (hm : Lg m) (hn : m.length ≤ 100000000) : Fn Tryz.prog 22 [.agg [.v (.bool b), usD l, .v (.bool c), usD m]] (qD b (VL l) (VL m)) := by
  refine fn_ev tabT Tryz.func22 rfl rfl rfl rfl rfl rfl ?_
  intro w0 s0 mx
  refine ev_R tabT [] 100 ?_
  refine ev_seq (ev_drawn tabT [] [[], [0], [0, 1], [], [3], [3, 4], [0, 1, 2, 3, 4, 5], [0, 1, 2, 3, 4, 5, 6], [0, 1, 2, 3, 4, 5, 6, 7]] 200 mixT (by kernel_rfl) rfl ?_)
  refine sat_go ?_
  refine sat_fn _ (IntOf3_ok b l hg hl) rfl ?_
  refine sat_go ?_
  refine sat_fn _ (Of3_ok m hm hn) rfl ?_
  refine sat_go ?_
  refine sat_done (exS_normal (ev_ret ?_))
  exact FinV.ret rfl (SubP.refl _)
theorem Whole3_ok (b : Bool) (n : Nat) : Fn Tryz.prog 23 [rD b n] (qD b n 1) := by
  refine fn_ev tabT Tryz.func23 rfl rfl rfl rfl rfl rfl ?_
  intro w0 s0 mx
  refine ev_R tabT [] 100 ?_
  refine ev_seq (ev_drawn tabT [] [[], [], [0, 1], [0, 1, 2]] 200 mixT (by kernel_rfl) rfl ?_)
  refine sat_go ?_
  refine sat_fn _ (Small3_ok 1 (by omega) (by omega)) rfl ?_
  refine sat_go ?_
  refine sat_done (exS_normal (ev_ret ?_))
  exact FinV.ret rfl (SubP.refl _)
theorem Number7_ok (v : Vl) (hg : Lg v.nl) (hl : v.nl.length ≤ 100000000) (hm : Lg v.dl) (hn : v.dl.length ≤ 100000000) : Fn Tryz.prog 8 [.agg (vlD v)] (qD v.nn (VL v.nl) (if v.k = 3 then VL v.dl else 1)) := by
  refine fn_ev tabT Tryz.func8 rfl rfl rfl rfl rfl rfl ?_
  intro w0 s0 mx
  refine ev_R tabT [] 100 ?_
  refine ev_seq (ev_R tabT [] 200 ?_)
  refine ev_if (fun c1 => ?_) (fun c1 => ?_)
  ·
    refine ev_seq (ev_region tabT [] 300 rfl ?_)
    refine sat_go ?_
    refine sat_fn _ (RatioOf_ok v.nn v.dn v.nl v.dl hg hl hm hn) rfl ?_
    refine sat_go ?_
    refine sat_done (exS_normal (ev_ret (exS_ret ?_)))
    exact FinV.ret rfl (SubP.of_eq (by rw [if_pos (by simpa using c1)]; rfl))
  ·
    refine ev_skip (exS_normal ?_)
    refine ev_seq (ev_region tabT [] 400 rfl ?_)
    refine sat_go ?_
    refine sat_fn _ (IntOf3_ok v.nn v.nl hg hl) rfl ?_
    refine sat_go ?_
    refine sat_fn _ (Whole3_ok _ _) rfl ?_
    refine sat_go ?_
    refine sat_done (exS_normal (ev_ret ?_))
    exact FinV.ret rfl (SubP.of_eq (by rw [if_neg (by simpa using c1)]; rfl))
theorem IsNumber_ok (v : Vl) : Fn Tryz.prog 5 [.agg (vlD v)] (.v (.bool (decide (v.k = 2) || decide (v.k = 3)))) := by
  refine fn_ev tabT Tryz.func5 rfl rfl rfl rfl rfl rfl ?_
  intro w0 s0 mx
  refine ev_R tabT [] 100 ?_
  refine ev_R tabT [] 200 ?_
  refine ev_ret ?_
  exact FinV.ret rfl (SubP.refl _)
theorem opValue_ok (v : Vl) : Fn Tryz.prog 92 [.agg (vlD v)] (.agg (stD (vlS v))) := by
  refine fn_ev tabT Tryz.func92 rfl rfl rfl rfl rfl rfl ?_
  intro w0 s0 mx
  refine ev_R tabT [] 100 ?_
  refine ev_R tabT [] 200 ?_
  refine ev_ret ?_
  exact FinV.ret rfl (SubP.agg (by repeat (first | exact trivial | exact SubP.refl _ | exact SubP.nilSl rfl | refine ⟨?_, ?_⟩)))
theorem opRaise_ok (c : Int) (s : ByteArray) : Fn Tryz.prog 45 [.v (.int .i64 c), .v (.string s)] (.agg (stD (raS c s))) := by
  refine fn_ev tabT Tryz.func45 rfl rfl rfl rfl rfl rfl ?_
  intro w0 s0 mx
  refine ev_R tabT [] 100 ?_
  refine ev_R tabT [] 200 ?_
  refine ev_ret ?_
  exact FinV.ret rfl (SubP.agg (by repeat (first | exact trivial | exact SubP.refl _ | exact SubP.nilSl rfl | refine ⟨?_, ?_⟩)))
theorem opLimit_ok  : Fn Tryz.prog 94 [] (.agg (stD (raS 42 tooB))) := by
  refine fn_ev tabT Tryz.func94 rfl rfl rfl rfl rfl rfl ?_
  intro w0 s0 mx
  refine ev_R tabT [] 100 ?_
  refine ev_seq (ev_region tabT [] 200 rfl ?_)
  refine sat_go ?_
  refine sat_fn _ (opRaise_ok _ _) rfl ?_
  refine sat_go ?_
  refine sat_done (exS_normal (ev_ret ?_))
  exact FinV.ret rfl (SubP.refl _)
theorem opFailed_ok (c i : Int) : Fn Tryz.prog 129 [faD c i] (.tup [.agg (stD (flS c)), .v (.bool (decide (¬ c = 0)))]) := by
  refine fn_ev tabT Tryz.func129 rfl rfl rfl rfl rfl rfl ?_
  intro w0 s0 mx
  refine ev_R tabT [] 100 ?_
  refine ev_seq (ev_R tabT [] 200 ?_)
  refine ev_block (ev_R tabT [] 300 ?_)
  refine ev_if (fun c2 => ?_) (fun c2 => ?_)
  ·
    refine ev_R tabT [] 400 ?_
    refine ev_ret (exBl_ret (exS_ret ?_))
    exact FinV.ret rfl (SubP.tup ⟨SubP.agg (by rw [flS, if_pos c2]; repeat (first | exact trivial | exact SubP.refl _ | exact SubP.nilSl rfl | refine ⟨?_, ?_⟩)), SubP.bool (by simp [c2]), trivial⟩)
  ·
    refine ev_R tabT [] 500 ?_
    refine ev_if (fun c4 => ?_) (fun c4 => ?_)
    ·
      refine ev_seq (ev_region tabT [] 600 rfl ?_)
      refine sat_go ?_
      refine sat_fn _ (opRaise_ok _ _) rfl ?_
      refine sat_go ?_
      refine sat_done (exS_normal (ev_ret (exBl_ret (exS_ret ?_))))
      exact FinV.ret rfl (SubP.tup ⟨SubP.of_eq (by rw [flS, if_neg c2, if_pos c4]; rfl), SubP.bool (by simp [c2]), trivial⟩)
    ·
      refine ev_skip (exBl_normal (exS_normal ?_))
      refine ev_seq (ev_region tabT [] 700 rfl ?_)
      refine sat_go ?_
      refine sat_fn _ (opLimit_ok) rfl ?_
      refine sat_go ?_
      refine sat_done (exS_normal (ev_ret ?_))
      exact FinV.ret rfl (SubP.tup ⟨SubP.of_eq (by rw [flS, if_neg c2, if_neg c4]; rfl), SubP.bool (by simp [c2]), trivial⟩)
theorem opWhole_ok (b : Bool) (l : List Nat) (c i : Int) : Fn Tryz.prog 115 [.agg [.v (.bool b), usD l], faD c i] (.agg (stD (whS b l c))) := by
  refine fn_ev tabT Tryz.func115 rfl rfl rfl rfl rfl rfl ?_
  intro w0 s0 mx
  refine ev_R tabT [] 100 ?_
  refine ev_seq ?_
  refine ev_seq (ev_region tabT [] 200 rfl ?_)
  refine sat_go ?_
  refine sat_fn _ (opFailed_ok _ _) rfl ?_
  refine sat_go ?_
  refine sat_done (exS_normal (ev_R tabT [] 300 ?_))
  refine ev_if (fun c2 => ?_) (fun c2 => ?_)
  ·
    refine ev_R tabT [] 400 ?_
    refine ev_ret (exS_ret ?_)
    exact FinV.ret rfl (SubP.of_eq (by rw [whS, if_neg (by simpa using c2)]; rfl))
  ·
    refine ev_skip (exS_normal ?_)
    refine ev_seq (ev_region tabT [] 500 rfl ?_)
    refine sat_go ?_
    refine sat_fn _ ((opValue_ok ⟨2, b, l, false, [], ByteArray.empty, 0⟩).args ⟨SubP.agg (by repeat (first | exact trivial | exact SubP.refl _ | exact SubP.nilSl rfl | refine ⟨?_, ?_⟩)), trivial⟩) rfl ?_
    refine sat_go ?_
    refine sat_done (exS_normal (ev_ret ?_))
    exact FinV.ret rfl (SubP.of_eq (by rw [whS, if_pos (by simpa using c2)]; rfl))
end Go.Proofs.YtnkjenaanjnihaaGreatDoor


/- Walks by the evaluator: unary operators. -/
namespace Go.Proofs.YtnkjenaanjnihaaGreatDoor
open Go.RowKit
variable {md me : Bool}
end Go.Proofs.YtnkjenaanjnihaaGreatDoor


/- Numbers as fractions in lowest terms. Plain (statements 41 and 42). -/
namespace Go.Proofs.YtnkjenaanjnihaaGreatDoor
namespace Qr
open Go.RowKit
def vQ (n : Int) (d : Nat) : Vl := if d = 1 then nuV n else ⟨3, decide (n < 0), lim n.natAbs, false, lim d, ByteArray.empty, 0⟩
structure Q (n : Int) (d : Nat) : Prop where
  d0 : 0 < d
  co : Nat.gcd n.natAbs d = 1
  nl : (lim n.natAbs).length ≤ 128
  dl : (lim d).length ≤ 128
def rN (z : Int) (d : Nat) : Int := ZI (decide (z < 0)) (z.natAbs / Nat.gcd z.natAbs d)
def rD (z : Int) (d : Nat) : Nat := d / Nat.gcd z.natAbs d
theorem ZI_abs (b : Bool) (n : Nat) : (ZI b n).natAbs = n := by
  unfold ZI
  split
  · rw [Int.natAbs_neg]; rfl
  · rfl
theorem rN_abs (z : Int) (d : Nat) : (rN z d).natAbs = z.natAbs / Nat.gcd z.natAbs d := ZI_abs _ _
theorem rN_mul (z : Int) (d : Nat) : rN z d * (Nat.gcd z.natAbs d : Nat) = z := by
  have h1 : z.natAbs / Nat.gcd z.natAbs d * Nat.gcd z.natAbs d = z.natAbs := Nat.div_mul_cancel (Nat.gcd_dvd_left _ _)
  have h2 : ((z.natAbs / Nat.gcd z.natAbs d : Nat) : Int) * (Nat.gcd z.natAbs d : Nat) = (z.natAbs : Nat) := by
    rw [← Int.natCast_mul, h1]
  unfold rN ZI
  by_cases hz : z < 0
  · rw [decide_eq_true hz, if_pos rfl, Int.neg_mul, h2]; omega
  · rw [decide_eq_false hz, if_neg (by decide), h2]; omega
theorem rD_mul (z : Int) (d : Nat) : rD z d * Nat.gcd z.natAbs d = d := Nat.div_mul_cancel (Nat.gcd_dvd_right _ _)
theorem rD_pos {z : Int} {d : Nat} (h : 0 < d) : 0 < rD z d := by
  have h1 := rD_mul z d
  rcases Nat.eq_zero_or_pos (rD z d) with h2 | h2
  · rw [h2, Nat.zero_mul] at h1; omega
  · exact h2
theorem r_co {z : Int} {d : Nat} (h : 0 < d) : Nat.gcd (rN z d).natAbs (rD z d) = 1 := by
  rw [rN_abs]
  exact Nat.gcd_div_gcd_div_gcd_of_pos_right h
theorem r_rat {z : Int} {d : Nat} (h : 0 < d) : mkRat (rN z d) (rD z d) = mkRat z d := by
  rw [Rat.mkRat_eq_iff (by have := rD_pos (z := z) h; omega) (by omega)]
  have h1 := rN_mul z d
  have h2 := rD_mul z d
  have h3 : (d : Int) = (rD z d : Nat) * (Nat.gcd z.natAbs d : Nat) := by rw [← Int.natCast_mul, h2]
  rw [h3]
  grind
theorem co_uniq {a d b e : Nat} (hd : 0 < d) (h1 : Nat.gcd a d = 1) (h2 : Nat.gcd b e = 1) (h : a * e = b * d) : a = b ∧ d = e := by
  have h3 : d ∣ e := Nat.Coprime.dvd_of_dvd_mul_left (m := a) (by rw [Nat.coprime_comm]; exact h1) ⟨b, by rw [h, Nat.mul_comm]⟩
  have h4 : e ∣ d := Nat.Coprime.dvd_of_dvd_mul_left (m := b) (by rw [Nat.coprime_comm]; exact h2) ⟨a, by rw [← h, Nat.mul_comm]⟩
  have h5 := Nat.dvd_antisymm h3 h4
  subst h5
  exact ⟨Nat.eq_of_mul_eq_mul_right hd h, rfl⟩
def nV (v : Vl) : Int := ZI v.nn (VL v.nl)
def dV (v : Vl) : Nat := if v.k = 3 then VL v.dl else 1
def qV (v : Vl) : Rat := mkRat (nV v) (dV v)
structure Nm (v : Vl) : Prop where
  k : v.k = 2 ∨ v.k = 3
  q : Q (nV v) (dV v)
  e : v = vQ (nV v) (dV v)
theorem vq_nm {n : Int} {d : Nat} (q : Q n d) : nV (vQ n d) = n ∧ dV (vQ n d) = d ∧ Nm (vQ n d) := by
  have h : nV (vQ n d) = n ∧ dV (vQ n d) = d ∧ ((vQ n d).k = 2 ∨ (vQ n d).k = 3) := by
    unfold vQ
    split
    · rename_i h1
      refine ⟨?_, h1.symm, .inl rfl⟩
      show ZI (decide (n < 0)) (VL (lim n.natAbs)) = n
      rw [L_dig, ZI_of]
    · refine ⟨?_, ?_, .inr rfl⟩
      · show ZI (decide (n < 0)) (VL (lim n.natAbs)) = n
        rw [L_dig, ZI_of]
      · show VL (lim d) = d
        rw [L_dig]
  exact ⟨h.1, h.2.1, h.2.2, by rw [h.1, h.2.1]; exact q, by rw [h.1, h.2.1]⟩
theorem nm_of {v : Vl} (gn : Lg v.nl) (gd : Lg v.dl) (hk : v.k = 2 ∨ v.k = 3) (hv : vokS v = true) : Nm v := by
  have h1 : intOk v.nn v.nl = true ∧ v.s = ByteArray.empty ∧ v.r = 0 := by
    rcases hk with hk | hk
    · rw [vokS, if_neg (by omega), if_neg (by omega), if_pos hk] at hv
      simp only [Bool.and_eq_true, decide_eq_true_eq, emS] at hv
      exact ⟨hv.1.1.1, hv.1.2, hv.2⟩
    · rw [vokS, if_neg (by omega), if_neg (by omega), if_neg (by omega), if_pos hk] at hv
      simp only [Bool.and_eq_true, decide_eq_true_eq, emS, ratS] at hv
      exact ⟨hv.1.1.1.1.1.1, hv.1.2, hv.2⟩
  obtain ⟨e1, e2, e3⟩ := int_ok gn h1.1
  have hab : (nV v).natAbs = VL v.nl := ZI_abs _ _
  have hnl : (lim (nV v).natAbs).length ≤ 128 := by rw [hab, ← e1]; exact e3
  rcases hk with hk | hk
  · have hd : dV v = 1 := if_neg (by omega)
    rw [vokS, if_neg (by omega), if_neg (by omega), if_pos hk] at hv
    simp only [Bool.and_eq_true, decide_eq_true_eq, zI, smI_iff] at hv
    have hdn := hv.1.1.2
    refine ⟨.inl hk, by rw [hd]; exact ⟨by decide, Nat.gcd_one_right _, hnl, by decide +kernel⟩, ?_⟩
    rw [hd, vQ, if_pos rfl]
    obtain ⟨k, nn, nl, dn, dl, s, r⟩ := v
    have a1 : k = 2 := hk
    have a2 : dn = false := hdn.1
    have a3 : dl = [] := hdn.2
    have a4 : s = ByteArray.empty := h1.2.1
    have a5 : r = 0 := h1.2.2
    subst a1; subst a2; subst a3; subst a4; subst a5
    show Vl.mk 2 nn nl false [] ByteArray.empty 0 = Vl.mk 2 (decide (nV _ < 0)) (lim (nV _).natAbs) false [] ByteArray.empty 0
    rw [hab]
    congr 1
  · have hd : dV v = VL v.dl := if_pos hk
    rw [vokS, if_neg (by omega), if_neg (by omega), if_neg (by omega), if_pos hk] at hv
    simp only [Bool.and_eq_true, decide_eq_true_eq, ratS, Bool.not_eq_true'] at hv
    have hr := hv.1.1.1
    have hdn : v.dn = false := hr.1.2.1
    have hd0 := hr.1.2.2
    obtain ⟨f1, f2, f3⟩ := int_ok gd hr.1.1.2
    have hpos : 0 < VL v.dl := by
      rcases Nat.eq_zero_or_pos (VL v.dl) with h9 | h9
      · rw [h9, lim_zero] at f1; rw [f1] at hd0; cases hd0
      · exact h9
    have hco : Nat.gcd (VL v.nl) (VL v.dl) = 1 := by
      have h9 := hr.2
      rw [beq_iff_eq] at h9
      unfold cmpN at h9
      split at h9
      · exact absurd h9 (by decide)
      · split at h9
        · exact absurd h9 (by decide)
        · omega
    have hne : VL v.dl ≠ 1 := fun h9 => by
      have h8 := hv.1.1.2
      rw [h9, show lim 1 = [1] from by decide +kernel] at f1
      rw [f1] at h8
      exact absurd h8 (by decide)
    refine ⟨.inr hk, by rw [hd]; exact ⟨hpos, by rw [hab]; exact hco, hnl, by rw [← f1]; exact f3⟩, ?_⟩
    rw [hd, vQ, if_neg hne]
    obtain ⟨k, nn, nl, dn, dl, s, r⟩ := v
    have a1 : k = 3 := hk
    have a2 : dn = false := hdn
    have a4 : s = ByteArray.empty := h1.2.1
    have a5 : r = 0 := h1.2.2
    subst a1; subst a2; subst a4; subst a5
    show Vl.mk 3 nn nl false dl ByteArray.empty 0 = Vl.mk 3 (decide (nV _ < 0)) (lim (nV _).natAbs) false (lim (VL dl)) ByteArray.empty 0
    rw [hab]
    have b1 : nl = lim (VL nl) := e1
    have b2 : nn = decide (nV ⟨3, nn, nl, false, dl, ByteArray.empty, 0⟩ < 0) := e2
    have b3 : dl = lim (VL dl) := f1
    rw [← b1, ← b2, ← b3]
def fits (z : Int) (d : Nat) : Bool := decide ((lim (rN z d).natAbs).length ≤ 128) && decide ((lim (rD z d)).length ≤ 128)
def opQ (z : Int) (d : Nat) : St := if fits z d = true then vlS (vQ (rN z d) (rD z d)) else raS 42 tooB
theorem op_ok {z : Int} {d : Nat} (h : 0 < d) (hk : (opQ z d).k = 0) : Nm (opQ z d).v ∧ qV (opQ z d).v = mkRat z d := by
  unfold opQ at hk ⊢
  split at hk
  · rename_i hf
    rw [if_pos hf]
    unfold fits at hf
    rw [Bool.and_eq_true, decide_eq_true_eq, decide_eq_true_eq] at hf
    have q : Q (rN z d) (rD z d) := ⟨rD_pos h, r_co h, hf.1, hf.2⟩
    have hn := vq_nm q
    refine ⟨hn.2.2, ?_⟩
    show mkRat (nV (vQ _ _)) (dV (vQ _ _)) = _
    rw [hn.1, hn.2.1, r_rat h]
  · exact absurd hk (show ¬ (1 : Int) = 0 by decide)
def addS (v w : Vl) : St := opQ (nV v * dV w + nV w * dV v) (dV v * dV w)
def mulS (v w : Vl) : St := opQ (nV v * nV w) (dV v * dV w)
section
variable {v w : Vl} (p : Nm v) (q : Nm w)
include p q
theorem mul_ok (hk : (mulS v w).k = 0) : Nm (mulS v w).v ∧ qV (mulS v w).v = qV v * qV w := by
  have h1 := p.q.d0
  have h2 := q.q.d0
  have h := op_ok (Nat.mul_pos h1 h2) hk
  refine ⟨h.1, h.2.trans ?_⟩
  unfold qV
  rw [Rat.mkRat_mul_mkRat]
end
end Qr
end Go.Proofs.YtnkjenaanjnihaaGreatDoor


/- The laws of numbers. Plain (statements 41 and 42). -/
namespace Go.Proofs.YtnkjenaanjnihaaGreatDoor
namespace Qr
open Go.RowKit
theorem op_eq {z : Int} {d : Nat} {v : Vl} (h : 0 < d) (p : Nm v) (e : mkRat z d = qV v) : opQ z d = vlS v := by
  have h0 := p.q.d0
  have h1 : mkRat (rN z d) (rD z d) = mkRat (nV v) (dV v) := (r_rat h).trans e
  have h2 := rD_pos (z := z) h
  rw [Rat.mkRat_eq_iff (by omega) (by omega)] at h1
  have h3 := congrArg Int.natAbs h1
  rw [Int.natAbs_mul, Int.natAbs_mul, Int.natAbs_natCast, Int.natAbs_natCast] at h3
  obtain ⟨h4, h5⟩ := co_uniq h2 (r_co h) p.q.co h3
  have h6 : rN z d = nV v := by
    rw [h5] at h1
    exact Int.eq_of_mul_eq_mul_right (by omega) h1
  have hf : fits z d = true := by
    unfold fits
    rw [h6, h5, decide_eq_true p.q.nl, decide_eq_true p.q.dl]
    rfl
  unfold opQ
  rw [if_pos hf, h6, h5, ← p.e]
end Qr
end Go.Proofs.YtnkjenaanjnihaaGreatDoor


/- Division of numbers with a remainder. Plain (statement 41). -/
namespace Go.Proofs.YtnkjenaanjnihaaGreatDoor
namespace Qr
open Go.RowKit
def pV (v w : Vl) : Int := nV v * dV w
def rV (v w : Vl) : Int := dV v * nV w
def flS (v w : Vl) : St := if nV w = 0 then raS 41 zeroB else opQ (Int.fdiv (pV v w) (rV v w)) 1
def mdS (v w : Vl) : St := if nV w = 0 then raS 41 zeroB else opQ (Int.fmod (pV v w) (rV v w)) (dV v * dV w)
theorem fmod_sgn (P : Int) {R : Int} (h : R ≠ 0) : (0 < R → 0 ≤ Int.fmod P R ∧ Int.fmod P R < R) ∧ (R < 0 → R < Int.fmod P R ∧ Int.fmod P R ≤ 0) := by
  refine ⟨fun h1 => ⟨Int.fmod_nonneg_of_pos P h1, Int.fmod_lt_of_pos P h1⟩, fun h1 => ?_⟩
  have e := Int.neg_fmod_neg P R
  have h2 := Int.fmod_nonneg_of_pos (-P) (show 0 < -R by omega)
  have h3 := Int.fmod_lt_of_pos (-P) (show 0 < -R by omega)
  rw [e] at h2 h3
  omega
theorem law41 {a b q r : Vl} (pa : Nm a) (pb : Nm b) (hq : flS a b = vlS q) (hr : mdS a b = vlS r) :
    nV b ≠ 0 ∧ Nm q ∧ Nm r ∧ q.k = 2 ∧ (nV r ≠ 0 → (nV r < 0 ↔ nV b < 0)) ∧ (nV r).natAbs * dV b < (nV b).natAbs * dV r ∧ ∀ {m : Vl}, mulS q b = vlS m → addS m r = vlS a := by
  have k0 : ∀ {S : St} {v : Vl}, S = vlS v → S.k = 0 := fun h => by rw [h]; rfl
  have e0 : ∀ {S : St} {v : Vl}, S = vlS v → S.v = v := fun h => by rw [h]; rfl
  have h1 := pa.q.d0
  have h2 := pb.q.d0
  have hb0 : nV b ≠ 0 := fun h9 => by
    have := k0 hq
    unfold flS at this
    rw [if_pos h9] at this
    exact absurd this (show ¬ (1 : Int) = 0 by decide)
  unfold flS at hq
  unfold mdS at hr
  rw [if_neg hb0] at hq hr
  have hdd : 0 < dV a * dV b := Nat.mul_pos h1 h2
  have oq := op_ok (by decide) (k0 hq)
  have or := op_ok hdd (k0 hr)
  rw [e0 hq] at oq
  rw [e0 hr] at or
  have hR : rV a b ≠ 0 := by
    unfold rV
    exact Int.mul_ne_zero (by omega) hb0
  have hPM := Int.mul_fdiv_add_fmod (pV a b) (rV a b)
  have hs := fmod_sgn (pV a b) hR
  generalize hM : Int.fmod (pV a b) (rV a b) = M at *
  generalize hF : Int.fdiv (pV a b) (rV a b) = F at *
  have hd3 := or.1.q.d0
  have hmk := or.2
  unfold qV at hmk
  rw [Rat.mkRat_eq_iff (by omega) (by omega)] at hmk
  push_cast at hmk
  have hk2 : q.k = 2 := by
    have hv : q = vQ (rN F 1) (rD F 1) := by
      have := e0 hq
      unfold opQ at this hq
      split at this
      · exact this.symm
      · rename_i h9
        rw [if_neg h9] at hq
        exact absurd (k0 hq) (show ¬ (1 : Int) = 0 by decide)
    have hd1 : rD F 1 = 1 := by
      unfold rD
      rw [Nat.gcd_one_right]
    rw [hv, hd1]
    rfl
  have hrs : 0 < rV a b ↔ 0 < nV b := by
    unfold rV
    constructor
    · intro h9
      rcases Int.lt_or_le 0 (nV b) with h8 | h8
      · exact h8
      · have := Int.mul_nonpos_of_nonneg_of_nonpos (show (0 : Int) ≤ dV a by omega) h8
        omega
    · intro h9
      exact Int.mul_pos (by omega) h9
  have hsg : nV r ≠ 0 → (nV r < 0 ↔ nV b < 0) := fun hn => by
    have hpos : (0 : Int) < (dV a : Int) * dV b := by rw [← Int.natCast_mul]; omega
    have hpr : (0 : Int) < dV r := by omega
    have g1 : nV r < 0 ↔ M < 0 := by
      constructor
      · intro h9
        have h8 := Int.mul_neg_of_neg_of_pos h9 hpos
        rw [hmk] at h8
        rcases Int.lt_or_le M 0 with h7 | h7
        · exact h7
        · have := Int.mul_nonneg h7 (Int.le_of_lt hpr)
          omega
      · intro h9
        have h8 := Int.mul_neg_of_neg_of_pos h9 hpr
        rw [← hmk] at h8
        rcases Int.lt_or_le (nV r) 0 with h7 | h7
        · exact h7
        · have := Int.mul_nonneg h7 (Int.le_of_lt hpos)
          omega
    have g2 : M ≠ 0 := fun h9 => by
      rw [h9, Int.zero_mul] at hmk
      rcases Int.mul_eq_zero.1 hmk with h8 | h8
      · exact hn h8
      · omega
    rw [g1]
    rcases Int.lt_or_gt_of_ne hR with h9 | h9
    · have := hs.2 h9
      omega
    · have := hs.1 h9
      omega
  refine ⟨hb0, oq.1, or.1, hk2, hsg, ?_, fun {m} hm => ?_⟩
  · have h5 : M.natAbs < (rV a b).natAbs := by
      rcases Int.lt_or_gt_of_ne hR with h9 | h9
      · have := hs.2 h9
        omega
      · have := hs.1 h9
        omega
    have h6 : (rV a b).natAbs = dV a * (nV b).natAbs := by
      unfold rV
      rw [Int.natAbs_mul, Int.natAbs_natCast]
    have h7 := congrArg Int.natAbs hmk
    rw [Int.natAbs_mul, Int.natAbs_mul, Int.natAbs_mul, Int.natAbs_natCast, Int.natAbs_natCast, Int.natAbs_natCast] at h7
    rw [h6] at h5
    have h8 : M.natAbs * dV r < dV a * (nV b).natAbs * dV r := Nat.mul_lt_mul_of_pos_right h5 hd3
    rw [← h7] at h8
    refine Nat.lt_of_mul_lt_mul_left (a := dV a) ?_
    calc dV a * ((nV r).natAbs * dV b) = (nV r).natAbs * (dV a * dV b) := by grind
      _ < dV a * (nV b).natAbs * dV r := h8
      _ = dV a * ((nV b).natAbs * dV r) := by grind
  · have om := mul_ok oq.1 pb (k0 hm)
    rw [e0 hm] at om
    refine op_eq (Nat.mul_pos om.1.q.d0 hd3) pa ?_
    have h9 : mkRat (nV m * dV r + nV r * dV m) (dV m * dV r) = qV m + qV r := by
      unfold qV
      rw [Rat.mkRat_add_mkRat _ _ (by have := om.1.q.d0; omega) (by omega)]
    rw [h9, om.2, oq.2, or.2]
    unfold qV
    rw [Rat.mkRat_mul_mkRat, Rat.mkRat_add_mkRat _ _ (by omega) (by omega), Rat.mkRat_eq_iff (by have := Nat.mul_pos (show 0 < 1 * dV b by omega) hdd; omega) (by omega)]
    unfold pV rV at hPM
    push_cast
    generalize nV a = A at *
    generalize nV b = B at *
    generalize ((dV a : Nat) : Int) = DA at *
    generalize ((dV b : Nat) : Int) = DB at *
    clear hs hR hM hF hmk hsg hrs
    grind
end Qr
end Go.Proofs.YtnkjenaanjnihaaGreatDoor


/- Walks by the evaluator: fractions of the program: Gcd, Valid, Add, Sub, Mul, Div. -/
namespace Go.Proofs.YtnkjenaanjnihaaGreatDoor
open Go.RowKit
variable {md me : Bool}
def fV (n : Int) (d : Nat) : List D := [.v (.bool (decide (n < 0))), usD (lim n.natAbs), .v (.bool false), usD (lim d)]
def fX (x : Int × Nat) : List D := fV x.1 x.2
def frD (n : Int) (d : Nat) (c i : Int) : D := .tup [.agg (fV n d), faD c i]
def frN (z : Int) (d : Nat) : Int := if Qr.fits z d = true then Qr.rN z d else 0
def frE (z : Int) (d : Nat) : Nat := if Qr.fits z d = true then Qr.rD z d else 0
def frC (z : Int) (d : Nat) : Int := if Qr.fits z d = true then 0 else 14
def frI (z : Int) (d : Nat) : Int := if Qr.fits z d = true then 0 else -1
def redD (z : Int) (d : Nat) : D := frD (frN z d) (frE z d) (frC z d) (frI z d)
structure Eu (a b : Nat) where
  x : Nat
  y : Nat
  g : Nat.gcd x y = Nat.gcd a b
  lx : (lim x).length ≤ 600
  ly : (lim y).length ≤ 600
def Eu.next {a b : Nat} (e : Eu a b) (h : 0 < e.y) : Eu a b := ⟨e.y, e.x % e.y, by rw [← e.g, Nat.gcd_comm e.x e.y, Nat.gcd_rec e.y e.x, Nat.gcd_comm], e.ly, Nat.le_trans (lim_len_mono (Nat.le_of_lt (Nat.mod_lt _ h))) e.ly⟩
theorem Eu.fin {a b : Nat} (e : Eu a b) (h : e.y = 0) : e.x = Nat.gcd a b := by rw [← e.g, h, Nat.gcd_zero_right]
theorem lim_mulL {x y k m : Nat} (hx : (lim x).length ≤ k) (hy : (lim y).length ≤ m) : (lim (x * y)).length ≤ k + m := by
  have h1 := Nat.lt_of_lt_of_le (lim_lt x) (Nat.pow_le_pow_right (by decide) hx)
  have h2 := Nat.lt_of_lt_of_le (lim_lt y) (Nat.pow_le_pow_right (by decide) hy)
  refine lim_length_le ?_
  rw [Nat.pow_add]
  exact Nat.mul_lt_mul'' h1 h2
theorem ZI_lt (b : Bool) (n : Nat) : decide (ZI b n < 0) = (b && decide (0 < n)) := by
  cases b
  · unfold ZI; simp
  · unfold ZI; simp
theorem red_fits {b : Bool} {n d : Nat} : Qr.fits (ZI b n) d = (decide ((lim (n / Nat.gcd n d)).length ≤ 128) && decide ((lim (d / Nat.gcd n d)).length ≤ 128)) := by
  unfold Qr.fits Qr.rD
  rw [Qr.rN_abs, Qr.ZI_abs]
theorem red_neg (b : Bool) (n d : Nat) : decide (Qr.rN (ZI b n) d < 0) = (b && decide (0 < ((lim (n / Nat.gcd n d)).length : Int))) := by
  unfold Qr.rN
  rw [ZI_lt, ZI_lt, Qr.ZI_abs]
  by_cases hl : 0 < ((lim (n / Nat.gcd n d)).length : Int)
  · have hq := len_posL hl
    have hn : 0 < n := Nat.lt_of_lt_of_le hq (Nat.div_le_self _ _)
    rw [decide_eq_true hq, decide_eq_true hl, decide_eq_true hn, Bool.and_true]
  · have hq := len_nposL hl
    rw [hq, decide_eq_false (Nat.lt_irrefl 0), Bool.and_false, ← hq, decide_eq_false hl, Bool.and_false]
theorem redY {b : Bool} {n d : Nat} (h : Qr.fits (ZI b n) d = true) : redD (ZI b n) d = .tup [.agg [.v (.bool (b && decide (0 < ((lim (n / Nat.gcd n d)).length : Int)))), usD (lim (n / Nat.gcd n d)), .v (.bool false), usD (lim (d / Nat.gcd n d))], faD 0 0] := by
  unfold redD frN frE frC frI frD fV
  rw [if_pos h, if_pos h, if_pos h, if_pos h, red_neg, Qr.rN_abs, Qr.ZI_abs]
  unfold Qr.rD
  rw [Qr.ZI_abs]
theorem fV_0 : fV 0 0 = [.v (.bool false), usD [], .v (.bool false), usD []] := by
  unfold fV
  rw [show (0 : Int).natAbs = 0 from rfl, lim_zero]
  rfl
theorem fV_nil : SubP (.agg [.v (.bool false), .v (.slice none 0 0), .v (.bool false), .v (.slice none 0 0)]) (.agg (fV 0 0)) := by
  rw [fV_0]
  exact SubP.agg ⟨SubP.refl _, SubP.nilSl rfl, SubP.refl _, SubP.nilSl rfl, trivial⟩
theorem redN {z : Int} {d : Nat} (h : Qr.fits z d = false) : redD z d = frD 0 0 14 (-1) := by
  have h : ¬ Qr.fits z d = true := by rw [h]; decide
  unfold redD frN frE frC frI
  rw [if_neg h, if_neg h, if_neg h, if_neg h]
theorem lim_qle {n g k : Nat} (h : (lim n).length ≤ k) : (lim (n / g)).length ≤ k := Nat.le_trans (lim_len_mono (Nat.div_le_self _ _)) h
theorem gcd_l {n d k : Nat} (h0 : 0 < d) (h : (lim d).length ≤ k) : (lim (Nat.gcd n d)).length ≤ k := Nat.le_trans (lim_len_mono (Nat.gcd_le_right _ h0)) h
theorem qOk {n : Int} {d : Nat} (q : Qr.Q n d) : intOk (decide (n < 0)) (lim n.natAbs) = true := zOk q.nl
theorem qOk2 {n : Int} {d : Nat} (q : Qr.Q n d) : intOk false (lim d) = true := by
  have h := zOk (z := (d : Int)) q.dl
  rw [decide_eq_false (by omega), Int.natAbs_natCast] at h
  exact h
theorem natGcd_ok (a b : Nat) (ha : (lim a).length ≤ 600) (hb : (lim b).length ≤ 600) : Fn Tryz.prog 149 [usD (lim a), usD (lim b)] (.tup [usD (lim (Nat.gcd a b)), faD 0 0]) := by
  refine fn_ev tabT Tryz.func149 rfl rfl rfl rfl rfl rfl ?_
  intro w0 s0 mx
  refine ev_R tabT [] 100 ?_
  refine ev_seq ?_
  refine ev_seq (ev_region tabT [] 200 rfl ?_)
  refine sat_go ?_
  refine sat_fn _ (natCheck_ok a b ha hb) rfl ?_
  refine sat_go ?_
  refine sat_done (exS_normal (ev_R tabT [] 300 ?_))
  refine ev_if (fun c2 => ?_) (fun c2 => ?_)
  ·
    exact absurd c2 (by decide)
  ·
    refine ev_skip (exS_normal ?_)
    refine ev_seq (ev_region tabT [17] 500 rfl ?_)
    refine sat_go ?_
    refine sat_fnO _ _ _ (CloneU_ok (lim a) (by omega)) ?_
    refine sat_go ?_
    refine sat_done (exS_normal (ev_seq (ev_block ?_)))
    refine ev_loopK (ι := Eu a b) [5] [1] 550 (fun x => [(0, usD (lim x.x)), (1, usD (lim x.y))]) (fun _ => []) (fun x => x.y) ⟨a, b, rfl, ha, hb⟩ ?_
    refine ⟨⟨⟨Sub.ownSl rfl, Sub.refl _, le_t⟩, le_o, rfl, rfl⟩, fun x => ?_⟩
    skip
    refine ev_seq (ev_R tabT [] 600 ?_)
    refine ev_cond rfl (fun c5 => ?_) (fun c5 => ?_)
    · have hy := len_posL (of_decide_eq_true c5)
      refine ev_skip (exS_normal (ev_block ?_))
      refine ev_seq (ev_region tabT [] 700 rfl ?_)
      refine sat_go ?_
      refine sat_fn _ (natDivMod0_ok x.x x.y (by have := x.lx; omega) (by have := x.ly; omega) hy) rfl ?_
      refine sat_go ?_
      refine sat_done (exS_normal ?_)
      refine ev_region tabT [28] 800 rfl ?_
      refine sat_go ?_
      refine sat_fnO _ _ _ (CloneU_ok (lim x.y) (by have := x.ly; omega)) ?_
      refine sat_go ?_
      refine sat_done (exBl_normal ?_)
      exact exL_normal (x.next hy) ⟨⟨Sub.ownSl rfl, Sub.refl _, le_t⟩, le_o, rfl, rfl⟩ (by show x.x % x.y < x.y; exact Nat.mod_lt _ hy)
    · have hy := len_nposL (of_decide_eq_false c5)
      refine ev_exit (exS_exit (exL_exit (exBl_same (exS_normal (ev_R tabT [] 900 ?_)))))
      refine ev_ret ?_
      exact FinV.ret rfl (SubP.tup ⟨SubP.of_eq (by rw [x.fin hy]), SubP.refl _, trivial⟩)
theorem ratAt_ok (c i : Int) : Fn Tryz.prog 128 [.v (.int .i64 c), .v (.int .i64 i)] (faD c i) := by
  refine fn_ev tabT Tryz.func128 rfl rfl rfl rfl rfl rfl ?_
  intro w0 s0 mx
  refine ev_R tabT [] 100 ?_
  refine ev_R tabT [] 200 ?_
  refine ev_ret ?_
  exact FinV.ret rfl (SubP.refl _)
theorem ratValid_ok (n : Int) (d : Nat) (q : Qr.Q n d) : Fn Tryz.prog 155 [.agg (fV n d)] (.v (.bool true)) := by
  have k1 := qOk q
  have k2 := qOk2 q
  have hn := q.nl
  have hd := q.dl
  have hd0 : lim d ≠ [] := fun e => by rw [lim_nil] at e; have := q.d0; omega
  have hg := natGcd_ok n.natAbs d (by omega) (by omega)
  rw [q.co, lim_1] at hg
  refine fn_ev tabT Tryz.func155 rfl rfl rfl rfl rfl rfl ?_
  intro w0 s0 mx
  refine ev_R tabT [] 100 ?_
  refine ev_seq ?_
  refine ev_seq (ev_region tabT [] 200 rfl ?_)
  refine sat_go ?_
  refine sat_fn _ (intValid_ok _ (lim n.natAbs) (by omega)) rfl ?_
  refine sat_go ?_
  refine sat_fnG _ (fun hg7 => intValid_ok _ (lim d) (by omega)) rfl ?_
  refine sat_go ?_
  refine sat_done (exS_normal (ev_if (fun c1 => ?_) (fun c1 => ?_)))
  ·
    simp [k1, k2, hd0] at c1
  ·
    refine ev_skip (exS_normal ?_)
    refine ev_seq (ev_region tabT [] 400 rfl ?_)
    refine sat_go ?_
    refine sat_fn _ (hg) rfl ?_
    refine sat_go ?_
    refine sat_done (exS_normal (ev_R tabT [] 500 ?_))
    refine ev_ret ?_
    exact FinV.ret rfl (SubP.bool (by rfl))
theorem ratCheck_ok (L : List (Int × Nat)) (hv : ∀ k < L.length, Qr.Q (L.getD k (0, 1)).1 (L.getD k (0, 1)).2) (hl : L.length ≤ 100) : Fn Tryz.prog 125 [.sl false 4 L fX (0, 1)] (faD 0 0) := by
  refine fn_ev tabT Tryz.func125 rfl rfl rfl rfl rfl rfl ?_
  intro w0 s0 mx
  refine ev_R tabT [] 100 ?_
  refine ev_seq (ev_R tabT [] 200 ?_)
  refine ev_block ?_
  refine ev_loopK (ι := {k : Nat // k ≤ L.length}) [2, 5, 6] [0] 250 (fun x => [(7, .v (.int .i64 x.1))]) (fun _ => []) (fun x => L.length - x.1) ⟨0, Nat.zero_le _⟩ ?_
  refine ⟨⟨le_t, le_o, rfl, rfl⟩, fun x => ?_⟩
  have hk : x.1 ≤ L.length := x.2
  refine ev_R tabT [] 300 ?_
  refine ev_seq (ev_if (fun c2 => ?_) (fun c2 => ?_))
  ·
    refine ev_skip (exS_normal (ev_seq (ev_block ?_)))
    have hvk := hv x.1 c2
    refine ev_R tabT [] 400 ?_
    refine ev_seq (ev_region tabT [] 500 rfl ?_)
    refine sat_go ?_
    refine sat_fn _ (ratValid_ok _ _ (by simp only [Int.toNat_natCast]; exact hvk)) rfl ?_
    refine sat_go ?_
    refine sat_done (exS_normal (ev_if (fun c4 => ?_) (fun c4 => ?_)))
    ·
      exact absurd c4 (by decide)
    ·
      refine ev_skip (exBl_normal (exS_normal (ev_Q tabT [] 700 ?_)))
      exact exL_normal (⟨x.1 + 1, by omega⟩) ⟨⟨Sub.int (by push_cast; rfl), le_t⟩, le_o, rfl, rfl⟩ (by show L.length - (x.1 + 1) < L.length - x.1; omega)
  ·
    refine ev_exit (exS_exit (exL_exit (exBl_same (exS_normal (ev_R tabT [] 800 ?_)))))
    refine ev_ret ?_
    exact FinV.ret rfl (SubP.refl _)
theorem ratCheck2 {n m : Int} {d e : Nat} (q : Qr.Q n d) (r : Qr.Q m e) : ∀ k < [(n, d), (m, e)].length, Qr.Q ([(n, d), (m, e)].getD k (0, 1)).1 ([(n, d), (m, e)].getD k (0, 1)).2 := by
  intro k hk
  rcases k with _ | _ | k
  · exact q
  · exact r
  · exact absurd hk (by simp)
theorem ratRed_ok (b : Bool) (n d : Nat) (hn : (lim n).length ≤ 300) (hd : (lim d).length ≤ 300) (h0 : 0 < d) : Fn Tryz.prog 127 [.v (.bool b), usD (lim n), usD (lim d)] (redD (ZI b n) d) := by
  have hg0 : 0 < Nat.gcd n d := Nat.gcd_pos_of_pos_right _ h0
  have hgl := gcd_l (n := n) h0 hd
  refine fn_ev tabT Tryz.func127 rfl rfl rfl rfl rfl rfl ?_
  intro w0 s0 mx
  refine ev_R tabT [] 100 ?_
  refine ev_seq (ev_region tabT [] 200 rfl ?_)
  refine sat_go ?_
  refine sat_fn _ (natGcd_ok n d (by omega) (by omega)) rfl ?_
  refine sat_go ?_
  refine sat_done (exS_normal ?_)
  refine ev_seq (ev_region tabT [] 300 rfl ?_)
  refine sat_go ?_
  refine sat_fn _ (natDivMod_ok n (Nat.gcd n d) (by omega) (by omega) hg0) rfl ?_
  refine sat_go ?_
  refine sat_done (exS_normal ?_)
  refine ev_seq (ev_region tabT [] 400 rfl ?_)
  refine sat_go ?_
  refine sat_fn _ (natDivMod_ok d (Nat.gcd n d) (by omega) (by omega) hg0) rfl ?_
  refine sat_go ?_
  refine sat_done (exS_normal (ev_seq (ev_R tabT [] 500 ?_)))
  refine ev_cond rfl (fun c4 => ?_) (fun c4 => ?_)
  · have hf : Qr.fits (ZI b n) d = false := by rw [red_fits]; by_cases h8 : (lim (n / Nat.gcd n d)).length ≤ 128 <;> by_cases h9 : (lim (d / Nat.gcd n d)).length ≤ 128 <;> simp at c4 ⊢ <;> omega
    refine ev_seq (ev_region tabT [] 600 rfl ?_)
    refine sat_go ?_
    refine sat_fn _ (ratAt_ok _ _) rfl ?_
    refine sat_go ?_
    refine sat_done (exS_normal (ev_ret (exS_ret ?_)))
    rw [redN hf]
    exact FinV.ret rfl (SubP.tup ⟨fV_nil, SubP.refl _, trivial⟩)
  · have hf : Qr.fits (ZI b n) d = true := by rw [red_fits]; simp at c4 ⊢; omega
    refine ev_skip (exS_normal (ev_R tabT [] 700 ?_))
    refine ev_ret ?_
    rw [redY hf]
    exact FinV.ret rfl (SubP.refl _)
theorem ratPlus_n (s t r : Bool) (a b c d : Nat) (ha : (lim a).length ≤ 128) (hb : (lim b).length ≤ 128) (hc : (lim c).length ≤ 128) (hd : (lim d).length ≤ 128) (b0 : 0 < b) (d0 : 0 < d) : Fn Tryz.prog 126 [.agg [.v (.bool s), usD (lim a), .v (.bool false), usD (lim b)], .agg [.v (.bool t), usD (lim c), .v (.bool false), usD (lim d)], .v (.bool r)] (redD (ZI (plSg s (a * d) (t != r) (c * b)) (plN s (a * d) (t != r) (c * b))) (b * d)) := by
  have hcm := cmpN_neg (a * d) (c * b)
  have hx : (lim (a * d)).length ≤ 256 := lim_mulL ha hd
  have hy : (lim (c * b)).length ≤ 256 := lim_mulL hc hb
  have hz : (lim (b * d)).length ≤ 256 := lim_mulL hb hd
  have hxy : (lim (a * d + c * b)).length ≤ 257 := lim_add_le hx hy
  have hp : 0 < b * d := Nat.mul_pos b0 d0
  have hs1 : (lim (a * d - c * b)).length ≤ 256 := Nat.le_trans (lim_len_mono (Nat.sub_le _ _)) hx
  have hs2 : (lim (c * b - a * d)).length ≤ 256 := Nat.le_trans (lim_len_mono (Nat.sub_le _ _)) hy
  refine fn_ev tabT Tryz.func126 rfl rfl rfl rfl rfl rfl ?_
  intro w0 s0 mx
  refine ev_R tabT [] 100 ?_
  refine ev_seq (ev_region tabT [] 200 rfl ?_)
  refine sat_go ?_
  refine sat_fn _ (natMul_ok a d (by omega) (by omega) (by omega)) rfl ?_
  refine sat_go ?_
  refine sat_done (exS_normal ?_)
  refine ev_seq (ev_region tabT [] 300 rfl ?_)
  refine sat_go ?_
  refine sat_fn _ (natMul_ok c b (by omega) (by omega) (by omega)) rfl ?_
  refine sat_go ?_
  refine sat_done (exS_normal ?_)
  refine ev_seq (ev_region tabT [] 400 rfl ?_)
  refine sat_go ?_
  refine sat_fn _ (natMul_ok b d (by omega) (by omega) (by omega)) rfl ?_
  refine sat_go ?_
  refine sat_done (exS_normal ?_)
  refine ev_seq (ev_drawn tabT [] [[], [0], [0, 1], [], [3], [3, 4], [], [3, 4, 5, 6], [0, 1, 2], [0, 1, 2, 3, 4, 5, 6, 7, 8]] 500 mixT (by kernel_rfl) rfl ?_)
  refine sat_go ?_
  refine sat_done (exS_normal (ev_seq (ev_R tabT [] 600 ?_)))
  refine ev_if (fun c5 => ?_) (fun c5 => ?_)
  ·
    refine ev_seq (ev_region tabT [] 700 rfl ?_)
    refine sat_go ?_
    refine sat_fn _ (natAdd_ok _ _ (by omega) (by omega) (by omega)) rfl ?_
    refine sat_go ?_
    refine sat_done (exS_normal ?_)
    refine ev_seq (ev_region tabT [] 800 rfl ?_)
    refine sat_go ?_
    refine sat_fn _ (ratRed_ok _ _ _ (by omega) (by omega) hp) rfl ?_
    refine sat_go ?_
    refine sat_done (exS_normal (ev_ret (exS_ret ?_)))
    have hst : s = (t != r) := by simpa using c5
    exact FinV.ret rfl (SubP.of_eq (by rw [plSg, plN, if_pos hst, if_pos hst]; rfl))
  ·
    refine ev_skip (exS_normal (ev_seq ?_))
    refine ev_seq (ev_region tabT [] 900 rfl ?_)
    refine sat_go ?_
    refine sat_fn _ (natCmp_ok _ _ (by omega) (by omega)) rfl ?_
    refine sat_go ?_
    refine sat_done (exS_normal (ev_R tabT [] 1000 ?_))
    refine ev_if (fun c9 => ?_) (fun c9 => ?_)
    ·
      refine ev_Q tabT [] 1100 ?_
      refine exS_normal ?_
      refine ev_seq (ev_region tabT [] 1200 rfl ?_)
      refine sat_go ?_
      refine sat_fn _ (natSub_ok _ _ (by omega) (by omega) (by omega)) rfl ?_
      refine sat_go ?_
      refine sat_done (exS_normal ?_)
      refine ev_seq (ev_region tabT [] 1300 rfl ?_)
      refine sat_go ?_
      refine sat_fn _ (ratRed_ok _ _ _ (by omega) (by omega) hp) rfl ?_
      refine sat_go ?_
      refine sat_done (exS_normal (ev_ret ?_))
      have hst : ¬ s = (t != r) := by simpa using c5
      by_cases h9 : a * d < c * b
      · first | (exact absurd h9 (by omega)) | exact FinV.ret rfl (SubP.of_eq (by rw [plSg, plN, if_neg hst, if_neg hst, if_pos h9, if_pos h9]; rfl))
      · first | (exact absurd h9 (by omega)) | exact FinV.ret rfl (SubP.of_eq (by rw [plSg, plN, if_neg hst, if_neg hst, if_neg h9, if_neg h9]; rfl))
    ·
      refine ev_skip (exS_normal ?_)
      refine ev_seq (ev_region tabT [] 1200 rfl ?_)
      refine sat_go ?_
      refine sat_fn _ (natSub_ok _ _ (by omega) (by omega) (by omega)) rfl ?_
      refine sat_go ?_
      refine sat_done (exS_normal ?_)
      refine ev_seq (ev_region tabT [] 1300 rfl ?_)
      refine sat_go ?_
      refine sat_fn _ (ratRed_ok _ _ _ (by omega) (by omega) hp) rfl ?_
      refine sat_go ?_
      refine sat_done (exS_normal (ev_ret ?_))
      have hst : ¬ s = (t != r) := by simpa using c5
      by_cases h9 : a * d < c * b
      · first | (exact absurd h9 (by omega)) | exact FinV.ret rfl (SubP.of_eq (by rw [plSg, plN, if_neg hst, if_neg hst, if_pos h9, if_pos h9]; rfl))
      · first | (exact absurd h9 (by omega)) | exact FinV.ret rfl (SubP.of_eq (by rw [plSg, plN, if_neg hst, if_neg hst, if_neg h9, if_neg h9]; rfl))
theorem ZI_mulN (s : Bool) (a d : Nat) : ZI s (a * d) = ZI s a * d := by
  unfold ZI
  split
  · rw [Int.natCast_mul, Int.neg_mul]
  · rw [Int.natCast_mul]
theorem plus_eq (n m : Int) (d e : Nat) (r : Bool) : ZI (plSg (decide (n < 0)) (n.natAbs * e) (decide (m < 0) != r) (m.natAbs * d)) (plN (decide (n < 0)) (n.natAbs * e) (decide (m < 0) != r) (m.natAbs * d)) = n * e + (if r = true then -m else m) * d := by
  rw [plZ, ZI_mulN, ZI_mulN, ZI_of]
  cases r
  · rw [Bool.bne_false, ZI_of, if_neg (by decide)]
  · rw [Bool.bne_true, ZI_not, if_pos rfl]
theorem ratPlus_ok {n m : Int} {d e : Nat} (r : Bool) (p : Qr.Q n d) (q : Qr.Q m e) : Fn Tryz.prog 126 [.agg (fV n d), .agg (fV m e), .v (.bool r)] (redD (n * e + (if r = true then -m else m) * d) (d * e)) := by
  have h := ratPlus_n (decide (n < 0)) (decide (m < 0)) r n.natAbs d m.natAbs e p.nl p.dl q.nl q.dl p.d0 q.d0
  rw [plus_eq] at h
  exact h
theorem mul_Z (n m : Int) : ZI (decide (n < 0) != decide (m < 0)) (n.natAbs * m.natAbs) = n * m := by
  have h1 := ZI_of n
  have h2 := ZI_of m
  generalize n.natAbs = a at *
  generalize m.natAbs = b at *
  generalize decide (n < 0) = s at *
  generalize decide (m < 0) = t at *
  subst h1
  subst h2
  cases s <;> cases t <;> unfold ZI <;> simp <;> grind
theorem ratAdd_ok {n m : Int} {d e : Nat} (p : Qr.Q n d) (q : Qr.Q m e) : Fn Tryz.prog 87 [.agg (fV n d), .agg (fV m e)] (redD (n * e + m * d) (d * e)) := by
  refine fn_ev tabT Tryz.func87 rfl rfl rfl rfl rfl rfl ?_
  intro w0 s0 mx
  refine ev_R tabT [] 100 ?_
  refine ev_seq ?_
  refine ev_seq (ev_region tabT [] 200 rfl ?_)
  refine sat_go ?_
  refine sat_fn _ ((ratCheck_ok [(n, d), (m, e)] (ratCheck2 p q) (by show 2 ≤ 100; omega)).args ⟨SubP.slrSl rfl, trivial⟩) rfl ?_
  refine sat_go ?_
  refine sat_done (exS_normal (ev_R tabT [] 300 ?_))
  refine ev_if (fun c2 => ?_) (fun c2 => ?_)
  ·
    exact absurd c2 (by decide)
  ·
    refine ev_skip (exS_normal ?_)
    refine ev_seq (ev_region tabT [] 500 rfl ?_)
    refine sat_go ?_
    refine sat_fn _ (ratPlus_ok false p q) rfl ?_
    refine sat_go ?_
    refine sat_done (exS_normal (ev_ret ?_))
    exact FinV.ret rfl (SubP.refl _)
theorem ratMul_ok {n m : Int} {d e : Nat} (p : Qr.Q n d) (q : Qr.Q m e) : Fn Tryz.prog 89 [.agg (fV n d), .agg (fV m e)] (redD (n * m) (d * e)) := by
  have hn := p.nl
  have hd := p.dl
  have hm := q.nl
  have he := q.dl
  have hnm : (lim (n.natAbs * m.natAbs)).length ≤ 256 := lim_mulL hn hm
  have hde : (lim (d * e)).length ≤ 256 := lim_mulL hd he
  have hp0 : 0 < d * e := Nat.mul_pos p.d0 q.d0
  have hne : (lim (n.natAbs * e)).length ≤ 256 := lim_mulL hn he
  have hdm : (lim (d * m.natAbs)).length ≤ 256 := lim_mulL hd hm
  have hr := ratRed_ok (decide (n < 0) != decide (m < 0)) (n.natAbs * m.natAbs) (d * e) (by omega) (by omega) hp0
  rw [mul_Z] at hr
  refine fn_ev tabT Tryz.func89 rfl rfl rfl rfl rfl rfl ?_
  intro w0 s0 mx
  refine ev_R tabT [] 100 ?_
  refine ev_seq ?_
  refine ev_seq (ev_region tabT [] 200 rfl ?_)
  refine sat_go ?_
  refine sat_fn _ ((ratCheck_ok [(n, d), (m, e)] (ratCheck2 p q) (by show 2 ≤ 100; omega)).args ⟨SubP.slrSl rfl, trivial⟩) rfl ?_
  refine sat_go ?_
  refine sat_done (exS_normal (ev_R tabT [] 300 ?_))
  refine ev_if (fun c2 => ?_) (fun c2 => ?_)
  ·
    exact absurd c2 (by decide)
  ·
    refine ev_skip (exS_normal ?_)
    refine ev_seq (ev_region tabT [] 500 rfl ?_)
    refine sat_go ?_
    refine sat_fn _ (natMul_ok n.natAbs m.natAbs (by omega) (by omega) (by omega)) rfl ?_
    refine sat_go ?_
    refine sat_done (exS_normal ?_)
    refine ev_seq (ev_region tabT [] 600 rfl ?_)
    refine sat_go ?_
    refine sat_fn _ (natMul_ok d e (by omega) (by omega) (by omega)) rfl ?_
    refine sat_go ?_
    refine sat_done (exS_normal ?_)
    refine ev_seq (ev_region tabT [] 700 rfl ?_)
    refine sat_go ?_
    refine sat_fn _ (hr) rfl ?_
    refine sat_go ?_
    refine sat_done (exS_normal (ev_ret ?_))
    exact FinV.ret rfl (SubP.refl _)
end Go.Proofs.YtnkjenaanjnihaaGreatDoor
