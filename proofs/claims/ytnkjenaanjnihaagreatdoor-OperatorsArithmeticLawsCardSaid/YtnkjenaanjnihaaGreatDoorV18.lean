/- Part 18 of the proof. -/
import Derived.Test.YtnkjenaanjnihaaGreatDoorV17
import Derived.Test.YtnkjenaanjnihaaGreatDoorV13
import Derived.Test.YtnkjenaanjnihaaGreatDoorV16
import Derived.Test.YtnkjenaanjnihaaGreatDoorProg
import Derived.Ground.NamesProg
import Derived.Shelf.Spec.SlicesGrow
import Derived.Shelf.Strconv.Itoa3
import Derived.Shelf.Strconv.Quote
import Derived.Test.YtnkjenaanjnihaaGreatDoorV12
import Derived.Test.YtnkjenaanjnihaaGreatDoorV15
import Derived.Test.YtnkjenaanjnihaaGreatDoorV10


/- Walks by the evaluator: naturals of the program: divide, divMod, DivMod. -/
namespace Go.Proofs.YtnkjenaanjnihaaGreatDoor
open Go.RowKit
variable {md me : Bool}
theorem FnG.mw {P : Program} {f : FuncId} {k q i i' sz n n' : Nat} {r : List D} {own own' : List DOwn} {out : D} (h : FnG P f (.mw k q i sz n :: r) own out own') (h1 : i' = i) (h2 : n' = n) : FnG P f (.mw k q i' sz n' :: r) own out own' := by
  subst h1
  subst h2
  exact h
theorem limN_zero {q m X : Nat} (h : X < 4294967296 ^ m) : (limN q X).getD m 0 = 0 := by
  have h1 := VL_drop_one (limN q X) m
  have h2 := VL_div (limN_Lg q X) m
  have h3 : VL (limN q X) < 4294967296 ^ m := by
    rcases Nat.lt_or_ge X (4294967296 ^ q) with h4 | h4
    · rw [V_limN h4]; exact h
    · have h5 := L_lt (limN_Lg q X)
      rw [limN_len] at h5
      omega
  rw [Nat.div_eq_of_lt h3] at h2
  omega
theorem set_self {l : List Nat} {i v : Nat} (h : l.getD i 0 = v) : l.set i v = l := by
  apply List.ext_getElem?
  intro j
  rw [List.getElem?_set]
  split
  · rename_i e
    subst e
    split
    · rename_i hl
      rw [← h, List.getD_eq_getElem?_getD, List.getElem?_eq_getElem hl]; rfl
    · rename_i hl
      rw [List.getElem?_eq_none (by omega)]
  · rfl
theorem cut_rows {U : List Nat} {q n : Nat} (h : n ≤ q) : List.take (((n : Nat) : Int).toNat - Int.toNat 0) (List.drop (Int.toNat 0) (List.take q (List.drop 0 (MR.map U uD 0).rows))) = (U.take n).map uD := by
  show List.take (n - 0) (List.take q (U.map uD)) = _
  rw [List.take_take, Nat.sub_zero, Nat.min_eq_left h, List.map_take]
def shN (b : Nat) : Nat := 32 - blN ((lim b).getD ((lim b).length - 1) 0)
theorem shN_facts {b : Nat} (h0 : 0 < (lim b).length) : shN b < 32 ∧ (lim (b * 2 ^ shN b)).length = (lim b).length ∧ 2147483648 * 4294967296 ^ ((lim b).length - 1) ≤ b * 2 ^ shN b := by
  obtain ⟨m, hm⟩ : ∃ m, (lim b).length = m + 1 := ⟨(lim b).length - 1, by omega⟩
  have ht := lim_top (x := b) h0
  have hl := lg_at (lim_Dg b) ((lim b).length - 1)
  have hv := top_V (l := lim b) (n := m) hm
  have hlow := L_lt (Lg.take (lim_Dg b) m)
  rw [List.length_take, Nat.min_eq_left (by omega)] at hlow
  rw [L_dig] at hv
  unfold shN
  rw [hm, Nat.add_sub_cancel] at ht hl ⊢
  obtain ⟨p1, p2⟩ := blN_pow (x := (lim b).getD m 0) (by omega) hl
  have hb := blN_le ((lim b).getD m 0)
  generalize (lim b).getD m 0 = t at *
  generalize blN t = k at *
  generalize VL ((lim b).take m) = r at *
  have hk : 0 < k := by
    rcases Nat.eq_zero_or_pos k with h | h
    · subst h; rw [Nat.pow_zero] at p2; omega
    · exact h
  have hP : 2 ^ k * 2 ^ (32 - k) = 4294967296 := by rw [← Nat.pow_add, show k + (32 - k) = 32 by omega]
  have hp0 : 0 < 2 ^ (32 - k) := Nat.pow_pos (by decide)
  have hB : 0 < 4294967296 ^ m := Nat.pow_pos (by decide)
  have u1 : b < 4294967296 ^ m * (t + 1) := by rw [Nat.mul_add]; omega
  have u2 : b * 2 ^ (32 - k) < 4294967296 ^ (m + 1) := by
    have e1 : b * 2 ^ (32 - k) < 4294967296 ^ m * (t + 1) * 2 ^ (32 - k) := Nat.mul_lt_mul_of_pos_right u1 hp0
    have e2 : (t + 1) * 2 ^ (32 - k) ≤ 2 ^ k * 2 ^ (32 - k) := Nat.mul_le_mul_right _ p2
    rw [hP] at e2
    have e3 : 4294967296 ^ m * ((t + 1) * 2 ^ (32 - k)) ≤ 4294967296 ^ m * 4294967296 := Nat.mul_le_mul_left _ e2
    rw [Nat.mul_assoc] at e1
    rw [Nat.pow_succ]
    omega
  have u3 : 2147483648 * 4294967296 ^ m ≤ b * 2 ^ (32 - k) := by
    have e1 : 4294967296 ^ m * t * 2 ^ (32 - k) ≤ b * 2 ^ (32 - k) := Nat.mul_le_mul_right _ (by omega)
    have e2 : 2 ^ k * 2 ^ (32 - k) ≤ 2 * t * 2 ^ (32 - k) := Nat.mul_le_mul_right _ p1
    rw [hP, Nat.mul_assoc] at e2
    have e3 : 4294967296 ^ m * 2147483648 ≤ 4294967296 ^ m * (t * 2 ^ (32 - k)) := Nat.mul_le_mul_left _ (by omega)
    rw [Nat.mul_assoc] at e1
    rw [Nat.mul_comm]
    omega
  refine ⟨by omega, ?_, u3⟩
  have l1 := lim_length_le u2
  have l2 := lim_len_mono (x := b) (y := b * 2 ^ (32 - k)) (Nat.le_mul_of_pos_right _ hp0)
  omega
theorem natDivide_ok (a b : Nat) (ha : (lim a).length ≤ 100000) (hn : 2 ≤ (lim b).length) (hle : (lim b).length ≤ (lim a).length) : Fn Tryz.prog 168 [usD (lim a), usD (lim b)] (.tup [usD (lim (a / b)), usD (lim (a % b))]) := by
  obtain ⟨hs, hsl, hst⟩ := shN_facts (b := b) (by omega)
  have hn1 : (((lim b).length : Int) - 1).toNat = (lim b).length - 1 := by omega
  have hsp : 2 ^ shN b ≤ 2147483648 := by have h := Nat.pow_le_pow_right (show 0 < 2 by decide) (show shN b ≤ 31 by omega); simpa using h
  have gv := lim_Dg (b * 2 ^ shN b)
  have hLa := lim_lt a
  have hXl : (a * 2 ^ shN b) < 4294967296 ^ ((lim a).length + 1) := by rw [Nat.pow_succ]; exact Nat.mul_lt_mul_of_lt_of_le hLa (by omega) (by decide)
  have hvt : 0 < (lim (b * 2 ^ shN b)).getD ((lim b).length - 1) 0 := by have := lim_top (x := (b * 2 ^ shN b)) (by omega); rw [hsl] at this; omega
  have htl := top_lt (a := a) (b := (b * 2 ^ shN b)) (s := shN b) (n := (lim b).length) (m := ((lim a).length + 1 - (lim b).length)) (L := (lim a).length) hLa (by omega) (by omega) hsp hst
  have hml := lim_length_le hXl
  refine fn_ev tabT Tryz.func168 rfl rfl rfl rfl rfl rfl ?_
  intro w0 s0 mx
  refine ev_seq (ev_region tabT [] 100 rfl ?_)
  repeat (first | refine sat_same ?_ | refine sat_impA ?_ | refine sat_need (by first | exact trivial | omega | exact ⟨by decide, by omega, by simp only [List.length_take, List.length_drop, MR.len_rows, ← hmU, Nat.sub_zero, Nat.min_self]; omega⟩ | exact ini (by omega) (by omega) | exact ⟨hmo, by rw [← hmo]; omega⟩ | exact ⟨hmo, by omega⟩ | (constructor <;> omega) | (refine ⟨?_, ?_, ?_⟩ <;> omega) | (refine ⟨?_, ?_, ?_, ?_⟩ <;> omega) | first | exact trivial | omega | exact ini (by omega) (by omega) | (intro hh; simp at hh; exact ini (by omega) (by omega)) | (intro hh; simp at hh ⊢; omega) | (simp at *; omega) | (simp_all; done)) ?_)
  refine sat_done (exS_normal ?_)
  refine ev_seq (ev_region tabT [] 200 rfl ?_)
  repeat (first | refine sat_same ?_ | refine sat_impA ?_ | refine sat_need (by first | exact trivial | omega | exact ⟨by decide, by omega, by simp only [List.length_take, List.length_drop, MR.len_rows, ← hmU, Nat.sub_zero, Nat.min_self]; omega⟩ | exact ini (by omega) (by omega) | exact ⟨hmo, by rw [← hmo]; omega⟩ | exact ⟨hmo, by omega⟩ | (constructor <;> omega) | (refine ⟨?_, ?_, ?_⟩ <;> omega) | (refine ⟨?_, ?_, ?_, ?_⟩ <;> omega) | first | exact trivial | omega | exact ini (by omega) (by omega) | (intro hh; simp at hh; exact ini (by omega) (by omega)) | (intro hh; simp at hh ⊢; omega) | (simp at *; omega) | (simp_all; done)) ?_)
  refine sat_done (exS_normal ?_)
  refine ev_seq (ev_region tabT [] 300 rfl ?_)
  repeat (first | refine sat_same ?_ | refine sat_impA ?_ | refine sat_need (by first | exact trivial | omega | exact ⟨by decide, by omega, by simp only [List.length_take, List.length_drop, MR.len_rows, ← hmU, Nat.sub_zero, Nat.min_self]; omega⟩ | exact ini (by omega) (by omega) | exact ⟨hmo, by rw [← hmo]; omega⟩ | exact ⟨hmo, by omega⟩ | (constructor <;> omega) | (refine ⟨?_, ?_, ?_⟩ <;> omega) | (refine ⟨?_, ?_, ?_, ?_⟩ <;> omega) | first | exact trivial | omega | exact ini (by omega) (by omega) | (intro hh; simp at hh; exact ini (by omega) (by omega)) | (intro hh; simp at hh ⊢; omega) | (simp at *; omega) | (simp_all; done)) ?_)
  refine sat_fn _ (Lz32_ok _ (lg_at (lim_Dg b) _)) rfl ?_
  repeat (first | refine sat_same ?_ | refine sat_impA ?_ | refine sat_need (by first | exact trivial | omega | exact ⟨by decide, by omega, by simp only [List.length_take, List.length_drop, MR.len_rows, ← hmU, Nat.sub_zero, Nat.min_self]; omega⟩ | exact ini (by omega) (by omega) | exact ⟨hmo, by rw [← hmo]; omega⟩ | exact ⟨hmo, by omega⟩ | (constructor <;> omega) | (refine ⟨?_, ?_, ?_⟩ <;> omega) | (refine ⟨?_, ?_, ?_, ?_⟩ <;> omega) | first | exact trivial | omega | exact ini (by omega) (by omega) | (intro hh; simp at hh; exact ini (by omega) (by omega)) | (intro hh; simp at hh ⊢; omega) | (simp at *; omega) | (simp_all; done)) ?_)
  refine sat_done (exS_normal ?_)
  refine ev_tell [0, 1, 6] [] 310 [(7, .v (.int .i64 (shN b : Nat)))] [] ?_
  refine ⟨⟨⟨Sub.int (by rw [hn1]; rfl), le_t⟩, le_o, rfl, rfl⟩, ?_⟩
  refine ev_seq (ev_region tabT [1025] 400 rfl ?_)
  repeat (first | refine sat_same ?_ | refine sat_impA ?_ | refine sat_need (by first | exact trivial | omega | exact ⟨by decide, by omega, by simp only [List.length_take, List.length_drop, MR.len_rows, ← hmU, Nat.sub_zero, Nat.min_self]; omega⟩ | exact ini (by omega) (by omega) | exact ⟨hmo, by rw [← hmo]; omega⟩ | exact ⟨hmo, by omega⟩ | (constructor <;> omega) | (refine ⟨?_, ?_, ?_⟩ <;> omega) | (refine ⟨?_, ?_, ?_, ?_⟩ <;> omega) | first | exact trivial | omega | exact ini (by omega) (by omega) | (intro hh; simp at hh; exact ini (by omega) (by omega)) | (intro hh; simp at hh ⊢; omega) | (simp at *; omega) | (simp_all; done)) ?_)
  refine sat_fn _ (natLeft_ok b (shN b) (by omega) (by omega)) rfl ?_
  repeat (first | refine sat_same ?_ | refine sat_impA ?_ | refine sat_need (by first | exact trivial | omega | exact ⟨by decide, by omega, by simp only [List.length_take, List.length_drop, MR.len_rows, ← hmU, Nat.sub_zero, Nat.min_self]; omega⟩ | exact ini (by omega) (by omega) | exact ⟨hmo, by rw [← hmo]; omega⟩ | exact ⟨hmo, by omega⟩ | (constructor <;> omega) | (refine ⟨?_, ?_, ?_⟩ <;> omega) | (refine ⟨?_, ?_, ?_, ?_⟩ <;> omega) | first | exact trivial | omega | exact ini (by omega) (by omega) | (intro hh; simp at hh; exact ini (by omega) (by omega)) | (intro hh; simp at hh ⊢; omega) | (simp at *; omega) | (simp_all; done)) ?_)
  refine sat_fnH _ _ (natLeft_G a (shN b) (by omega) hs) rfl ?_
  repeat (first | refine sat_same ?_ | refine sat_impA ?_ | refine sat_need (by first | exact trivial | omega | exact ⟨by decide, by omega, by simp only [List.length_take, List.length_drop, MR.len_rows, ← hmU, Nat.sub_zero, Nat.min_self]; omega⟩ | exact ini (by omega) (by omega) | exact ⟨hmo, by rw [← hmo]; omega⟩ | exact ⟨hmo, by omega⟩ | (constructor <;> omega) | (refine ⟨?_, ?_, ?_⟩ <;> omega) | (refine ⟨?_, ?_, ?_, ?_⟩ <;> omega) | first | exact trivial | omega | exact ini (by omega) (by omega) | (intro hh; simp at hh; exact ini (by omega) (by omega)) | (intro hh; simp at hh ⊢; omega) | (simp at *; omega) | (simp_all; done)) ?_)
  refine sat_done (exS_normal (ev_seq (ev_block ?_)))
  refine ev_loopK (ι := {m : Nat // (lim (a * 2 ^ shN b)).length ≤ m ∧ m ≤ ((lim a).length + 1)}) [0, 6, 7, 8] [] 450 (fun x => [(9, .mw 315 ((lim a).length + 1) 0 1 x.1)]) (fun x => [(315, .mrow 48 1 (.map (limN ((lim a).length + 1) (a * 2 ^ shN b)) uD 0))]) (fun x => ((lim a).length + 1) - x.1) ⟨(lim (a * 2 ^ shN b)).length, Nat.le_refl _, hml⟩ ?_
  refine ⟨⟨le_t, le_o, rfl, rfl⟩, fun x => ?_⟩
  have hx1 := x.2.1
  have hx2 := x.2.2
  refine ev_seq ?_
  refine ev_seq (ev_region tabT [] 500 rfl ?_)
  repeat (first | refine sat_same ?_ | refine sat_impA ?_ | refine sat_need (by first | exact trivial | omega | exact ⟨by decide, by omega, by simp only [List.length_take, List.length_drop, MR.len_rows, ← hmU, Nat.sub_zero, Nat.min_self]; omega⟩ | exact ini (by omega) (by omega) | exact ⟨hmo, by rw [← hmo]; omega⟩ | exact ⟨hmo, by omega⟩ | (constructor <;> omega) | (refine ⟨?_, ?_, ?_⟩ <;> omega) | (refine ⟨?_, ?_, ?_, ?_⟩ <;> omega) | first | exact trivial | omega | exact ini (by omega) (by omega) | (intro hh; simp at hh; exact ini (by omega) (by omega)) | (intro hh; simp at hh ⊢; omega) | (simp at *; omega) | (simp_all; done)) ?_)
  refine sat_done (exS_normal (ev_if (fun c4 => ?_) (fun c4 => ?_)))
  ·
    refine ev_skip (exS_normal (ev_block ?_))
    refine ev_region tabT [] 600 rfl ?_
    repeat (first | refine sat_same ?_ | refine sat_impA ?_ | refine sat_need (by first | exact ⟨by rw [MR.len, limN_len], by omega⟩ | (rw [MR.len, limN_len]) | first | exact trivial | omega | exact ⟨by decide, by omega, by simp only [List.length_take, List.length_drop, MR.len_rows, ← hmU, Nat.sub_zero, Nat.min_self]; omega⟩ | exact ini (by omega) (by omega) | exact ⟨hmo, by rw [← hmo]; omega⟩ | exact ⟨hmo, by omega⟩ | (constructor <;> omega) | (refine ⟨?_, ?_, ?_⟩ <;> omega) | (refine ⟨?_, ?_, ?_, ?_⟩ <;> omega) | first | exact trivial | omega | exact ini (by omega) (by omega) | (intro hh; simp at hh; exact ini (by omega) (by omega)) | (intro hh; simp at hh ⊢; omega) | (simp at *; omega) | (simp_all; done)) ?_)
    refine sat_done (exBl_normal ?_)
    exact exL_normal ⟨x.1 + 1, by omega, by omega⟩ ⟨⟨Sub.mw rfl rfl rfl, le_t⟩, ⟨SubO.mr (by have hz : (a * 2 ^ shN b) < 4294967296 ^ x.1 := Nat.lt_of_lt_of_le (lim_lt _) (Nat.pow_le_pow_right (by decide) hx1); show (List.map uD (limN ((lim a).length + 1) (a * 2 ^ shN b))).set x.1 (uD 0) = List.map uD (limN ((lim a).length + 1) (a * 2 ^ shN b)); rw [← List.map_set, set_self (limN_zero hz)]), le_o⟩, rfl, rfl⟩ (by show ((lim a).length + 1) - (x.1 + 1) < ((lim a).length + 1) - x.1; omega)
  ·
    refine ev_exit (exS_exit (exL_exit (exBl_same (exS_normal ?_))))
    refine ev_tell [6, 7, 8] [] 510 [(9, .mw 315 ((lim a).length + 1) 0 1 ((lim a).length + 1))] [(315, .mrow 48 1 (.map (limN ((lim a).length + 1) (a * 2 ^ shN b)) uD 0))] ?_
    refine ⟨⟨⟨Sub.mw rfl rfl (by have := x.2.2; omega), le_t⟩, le_o, rfl, rfl⟩, ?_⟩
    refine ev_seq (ev_region tabT [1038] 700 rfl ?_)
    repeat (first | refine sat_same ?_ | refine sat_impA ?_ | refine sat_need (by first | exact trivial | omega | exact ⟨by decide, by omega, by simp only [List.length_take, List.length_drop, MR.len_rows, ← hmU, Nat.sub_zero, Nat.min_self]; omega⟩ | exact ini (by omega) (by omega) | exact ⟨hmo, by rw [← hmo]; omega⟩ | exact ⟨hmo, by omega⟩ | (constructor <;> omega) | (refine ⟨?_, ?_, ?_⟩ <;> omega) | (refine ⟨?_, ?_, ?_, ?_⟩ <;> omega) | first | exact trivial | omega | exact ini (by omega) (by omega) | (intro hh; simp at hh; exact ini (by omega) (by omega)) | (intro hh; simp at hh ⊢; omega) | (simp at *; omega) | (simp_all; done)) ?_)
    refine sat_done (exS_normal ?_)
    refine ev_tell [6, 7, 8, 9] [315] 710 [(10, .mo 514 ((lim a).length + 1 - (lim b).length))] [(514, .mrow 48 1 (.map (List.replicate ((lim a).length + 1 - (lim b).length) 0) uD 0))] ?_
    refine ⟨⟨⟨Sub.mo (by omega), le_t⟩, ⟨SubO.mr (by rw [zrows]; congr 3; omega), le_o⟩, rfl, rfl⟩, ?_⟩
    refine ev_seq ?_
    refine ev_seq (ev_region tabT [] 800 rfl ?_)
    repeat (first | refine sat_same ?_ | refine sat_impA ?_ | refine sat_need (by first | exact trivial | omega | exact ⟨by decide, by omega, by simp only [List.length_take, List.length_drop, MR.len_rows, ← hmU, Nat.sub_zero, Nat.min_self]; omega⟩ | exact ini (by omega) (by omega) | exact ⟨hmo, by rw [← hmo]; omega⟩ | exact ⟨hmo, by omega⟩ | (constructor <;> omega) | (refine ⟨?_, ?_, ?_⟩ <;> omega) | (refine ⟨?_, ?_, ?_, ?_⟩ <;> omega) | first | exact trivial | omega | exact ini (by omega) (by omega) | (intro hh; simp at hh; exact ini (by omega) (by omega)) | (intro hh; simp at hh ⊢; omega) | (simp at *; omega) | (simp_all; done)) ?_)
    refine sat_done (exS_normal (ev_block ?_))
    refine ev_loopK (ι := DvL (limN ((lim a).length + 1) (a * 2 ^ shN b)) (lim (b * 2 ^ shN b)) ((lim a).length + 1 - (lim b).length) (lim b).length) [6, 7, 8, 9, 10] [] 850 (fun y => [(11, .v (.int .i64 ((y.k : Int) - 1)))]) (fun y => [(315, .mrow 48 1 (.map y.U uD 0)), (514, .mrow 48 1 (.map y.o uD 0))]) (fun y => y.k) (DvL.start (by rw [limN_len]; omega) (limN_Lg _ _) (by rw [L_dig]; exact htl)) ?_
    refine ⟨⟨⟨Sub.int (by show _ = ((((lim a).length + 1 - (lim b).length) : Nat) : Int) - 1; omega), le_t⟩, le_o, rfl, rfl⟩, fun y => ?_⟩
    have hyk := y.le
    have hyU := y.hU
    have hyo := y.ho
    have hkt : ((y.k : Int) - 1).toNat = y.k - 1 := by omega
    have hmo : ((lim a).length + 1 - (lim b).length) = (MR.map y.o uD 0).len := by rw [MR.len, hyo]
    have hmU : ((lim a).length + 1) = (MR.map y.U uD 0).len := by rw [MR.len, hyU]; omega
    refine ev_seq ?_
    refine ev_seq (ev_region tabT [] 900 rfl ?_)
    repeat (first | refine sat_same ?_ | refine sat_impA ?_ | refine sat_need (by first | exact trivial | omega | exact ⟨by decide, by omega, by simp only [List.length_take, List.length_drop, MR.len_rows, ← hmU, Nat.sub_zero, Nat.min_self]; omega⟩ | exact ini (by omega) (by omega) | exact ⟨hmo, by rw [← hmo]; omega⟩ | exact ⟨hmo, by omega⟩ | (constructor <;> omega) | (refine ⟨?_, ?_, ?_⟩ <;> omega) | (refine ⟨?_, ?_, ?_, ?_⟩ <;> omega) | first | exact trivial | omega | exact ini (by omega) (by omega) | (intro hh; simp at hh; exact ini (by omega) (by omega)) | (intro hh; simp at hh ⊢; omega) | (simp at *; omega) | (simp_all; done)) ?_)
    refine sat_done (exS_normal (ev_if (fun c8 => ?_) (fun c8 => ?_)))
    ·
      refine ev_skip (exS_normal (ev_seq (ev_block ?_)))
      refine ev_region tabT [1058] 1100 rfl ?_
      repeat (first | refine sat_same ?_ | refine sat_impA ?_ | refine sat_need (by first | exact trivial | omega | exact ⟨by decide, by omega, by simp only [List.length_take, List.length_drop, MR.len_rows, ← hmU, Nat.sub_zero, Nat.min_self]; omega⟩ | exact ini (by omega) (by omega) | exact ⟨hmo, by rw [← hmo]; omega⟩ | exact ⟨hmo, by omega⟩ | (constructor <;> omega) | (refine ⟨?_, ?_, ?_⟩ <;> omega) | (refine ⟨?_, ?_, ?_, ?_⟩ <;> omega) | first | exact trivial | omega | exact ini (by omega) (by omega) | (intro hh; simp at hh; exact ini (by omega) (by omega)) | (intro hh; simp at hh ⊢; omega) | (simp at *; omega) | (simp_all; done)) ?_)
      refine sat_fnH _ _ ((natDigit_G y.U (lim (b * 2 ^ shN b)) ((lim a).length + 1) (y.k - 1) (lim b).length (by rw [y.hU]; omega) (by omega) hsl hn y.gU gv hvt (y.facts gv hsl (by omega)).2.1 (by omega)).mw (by omega) (by omega)) rfl ?_
      repeat (first | refine sat_same ?_ | refine sat_impA ?_ | refine sat_need (by first | exact trivial | omega | exact ⟨by decide, by omega, by simp only [List.length_take, List.length_drop, MR.len_rows, ← hmU, Nat.sub_zero, Nat.min_self]; omega⟩ | exact ini (by omega) (by omega) | exact ⟨hmo, by rw [← hmo]; omega⟩ | exact ⟨hmo, by omega⟩ | (constructor <;> omega) | (refine ⟨?_, ?_, ?_⟩ <;> omega) | (refine ⟨?_, ?_, ?_, ?_⟩ <;> omega) | first | exact trivial | omega | exact ini (by omega) (by omega) | (intro hh; simp at hh; exact ini (by omega) (by omega)) | (intro hh; simp at hh ⊢; omega) | (simp at *; omega) | (simp_all; done)) ?_)
      refine sat_done (exBl_normal (exS_normal ?_))
      refine ev_region tabT [] 1200 rfl ?_
      repeat (first | refine sat_same ?_ | refine sat_impA ?_ | refine sat_need (by first | exact trivial | omega | exact ⟨by decide, by omega, by simp only [List.length_take, List.length_drop, MR.len_rows, ← hmU, Nat.sub_zero, Nat.min_self]; omega⟩ | exact ini (by omega) (by omega) | exact ⟨hmo, by rw [← hmo]; omega⟩ | exact ⟨hmo, by omega⟩ | (constructor <;> omega) | (refine ⟨?_, ?_, ?_⟩ <;> omega) | (refine ⟨?_, ?_, ?_, ?_⟩ <;> omega) | first | exact trivial | omega | exact ini (by omega) (by omega) | (intro hh; simp at hh; exact ini (by omega) (by omega)) | (intro hh; simp at hh ⊢; omega) | (simp at *; omega) | (simp_all; done)) ?_)
      refine sat_done ?_
      exact exL_normal (y.next gv hsl (by omega)) ⟨⟨Sub.int (by show (y.k : Int) - 1 - 1 = ((y.k - 1 : Nat) : Int) - 1; omega), le_t⟩, ⟨SubO.mr (by show List.map uD (wnC y.U (y.k - 1) _) = List.map uD y.R; rw [wnC_drop (n := (lim b).length) (by omega) (limN_len _ _)]; rfl), SubO.mr (by rw [hkt]; exact set_rows _ _ _), le_o⟩, rfl, rfl⟩ (by show y.k - 1 < y.k; omega)
    ·
      refine ev_exit (exS_exit (exL_exit (exBl_same (exS_normal ?_))))
      refine ev_freeze 514 rfl (by repeat (first | exact trivial | exact hmo | exact ⟨hmU, rfl⟩ | refine ⟨?_, ?_⟩)) (by repeat (first | exact trivial | refine ⟨?_, ?_⟩)) ?_
      refine ev_freeze 315 rfl (by repeat (first | exact trivial | exact hmo | exact ⟨hmU, rfl⟩ | refine ⟨?_, ?_⟩)) (by repeat (first | exact trivial | refine ⟨?_, ?_⟩)) ?_
      refine ev_seq (ev_drawn tabT [] [[], [0], [], [], [2, 3], [0, 1, 2, 3, 4], [], [0, 1, 2, 3, 4, 5, 6], [0, 1, 2, 3, 4, 5, 6, 7], [0, 1, 2, 3, 4, 5, 6, 7, 8]] 1200 mixT (by kernel_rfl) rfl ?_)
      repeat (first | refine sat_same ?_ | refine sat_impA ?_ | refine sat_need (by first | exact trivial | omega | exact ⟨by decide, by omega, by simp only [List.length_take, List.length_drop, MR.len_rows, ← hmU, Nat.sub_zero, Nat.min_self]; omega⟩ | exact ini (by omega) (by omega) | exact ⟨hmo, by rw [← hmo]; omega⟩ | exact ⟨hmo, by omega⟩ | (constructor <;> omega) | (refine ⟨?_, ?_, ?_⟩ <;> omega) | (refine ⟨?_, ?_, ?_, ?_⟩ <;> omega) | first | exact trivial | omega | exact ini (by omega) (by omega) | (intro hh; simp at hh; exact ini (by omega) (by omega)) | (intro hh; simp at hh ⊢; omega) | (simp at *; omega) | (simp_all; done)) ?_)
      refine sat_fn _ ((natTrim_ok y.o y.go (by omega)).args ⟨SubP.ownSl rfl, trivial⟩) rfl ?_
      repeat (first | refine sat_same ?_ | refine sat_impA ?_ | refine sat_need (by first | exact trivial | omega | exact ⟨by decide, by omega, by simp only [List.length_take, List.length_drop, MR.len_rows, ← hmU, Nat.sub_zero, Nat.min_self]; omega⟩ | exact ini (by omega) (by omega) | exact ⟨hmo, by rw [← hmo]; omega⟩ | exact ⟨hmo, by omega⟩ | (constructor <;> omega) | (refine ⟨?_, ?_, ?_⟩ <;> omega) | (refine ⟨?_, ?_, ?_, ?_⟩ <;> omega) | first | exact trivial | omega | exact ini (by omega) (by omega) | (intro hh; simp at hh; exact ini (by omega) (by omega)) | (intro hh; simp at hh ⊢; omega) | (simp at *; omega) | (simp_all; done)) ?_)
      refine sat_fn _ ((natTrim_ok (y.U.take (lim b).length) (y.gU.take _) (by rw [List.length_take]; omega)).args ⟨SubP.slrSl (cut_rows (by omega)), trivial⟩) rfl ?_
      repeat (first | refine sat_same ?_ | refine sat_impA ?_ | refine sat_need (by first | exact trivial | omega | exact ⟨by decide, by omega, by simp only [List.length_take, List.length_drop, MR.len_rows, ← hmU, Nat.sub_zero, Nat.min_self]; omega⟩ | exact ini (by omega) (by omega) | exact ⟨hmo, by rw [← hmo]; omega⟩ | exact ⟨hmo, by omega⟩ | (constructor <;> omega) | (refine ⟨?_, ?_, ?_⟩ <;> omega) | (refine ⟨?_, ?_, ?_, ?_⟩ <;> omega) | first | exact trivial | omega | exact ini (by omega) (by omega) | (intro hh; simp at hh; exact ini (by omega) (by omega)) | (intro hh; simp at hh ⊢; omega) | (simp at *; omega) | (simp_all; done)) ?_)
      refine sat_fn _ (natRight_ok _ (shN b) (by refine Nat.le_trans (lim_length_le (L_lt (y.gU.take _))) (by rw [List.length_take]; omega)) (by omega)) rfl ?_
      repeat (first | refine sat_same ?_ | refine sat_impA ?_ | refine sat_need (by first | exact trivial | omega | exact ⟨by decide, by omega, by simp only [List.length_take, List.length_drop, MR.len_rows, ← hmU, Nat.sub_zero, Nat.min_self]; omega⟩ | exact ini (by omega) (by omega) | exact ⟨hmo, by rw [← hmo]; omega⟩ | exact ⟨hmo, by omega⟩ | (constructor <;> omega) | (refine ⟨?_, ?_, ?_⟩ <;> omega) | (refine ⟨?_, ?_, ?_, ?_⟩ <;> omega) | first | exact trivial | omega | exact ini (by omega) (by omega) | (intro hh; simp at hh; exact ini (by omega) (by omega)) | (intro hh; simp at hh ⊢; omega) | (simp at *; omega) | (simp_all; done)) ?_)
      refine sat_done (exS_normal (ev_ret ?_))
      obtain ⟨e1, e2⟩ := y.fin (by omega) gv hsl
      rw [V_limN hXl, L_dig] at e1 e2
      rw [sh_div] at e1
      exact FinV.ret rfl (SubP.tup ⟨SubP.of_eq (by rw [e1]), SubP.of_eq (by rw [e2, sh_mod]), trivial⟩)
end Go.Proofs.YtnkjenaanjnihaaGreatDoor


/- Ratios as the document writes them: pairs in lowest terms; the floor of a ratio. Plain law. -/
namespace Go.Proofs.YtnkjenaanjnihaaGreatDoor
end Go.Proofs.YtnkjenaanjnihaaGreatDoor


/- Walks by the evaluator: quotients and rests of the program: naturals, integers; ranges. -/
namespace Go.Proofs.YtnkjenaanjnihaaGreatDoor
open Go.RowKit
variable {md me : Bool}
theorem one_limb {b : Nat} (h : (lim b).length = 1) : (lim b).getD 0 0 = b := by
  have h1 := top_V (l := lim b) (n := 0) h
  rw [L_dig, Nat.pow_zero, Nat.one_mul] at h1
  simpa [VL] using h1.symm
theorem lim_one_r (r : Nat) : VL [r] = r := by rw [L_cons, L_nil]; rfl
theorem natDivMod0_ok (a b : Nat) (ha : (lim a).length ≤ 100000) (hb : (lim b).length ≤ 100000) (h0 : 0 < b) : Fn Tryz.prog 145 [usD (lim a), usD (lim b)] (.tup [usD (lim (a / b)), usD (lim (a % b))]) := by
  have hneg := cmpL_neg a b
  have hbp : 0 < (lim b).length := List.length_pos_iff.2 (fun h => by rw [lim_nil] at h; omega)
  refine fn_ev tabT Tryz.func145 rfl rfl rfl rfl rfl rfl ?_
  intro w0 s0 mx
  refine ev_R tabT [] 100 ?_
  refine ev_seq ?_
  refine ev_seq (ev_region tabT [] 200 rfl ?_)
  refine sat_go ?_
  refine sat_fn _ (natCompare_ok a b (by omega) (by omega)) rfl ?_
  refine sat_go ?_
  refine sat_done (exS_normal (ev_if (fun c1 => ?_) (fun c1 => ?_)))
  ·
    refine ev_seq (ev_region tabT [13] 300 rfl ?_)
    refine sat_go ?_
    refine sat_fnO _ _ _ (CloneU_ok (lim a) (by omega)) ?_
    refine sat_go ?_
    refine sat_done (exS_normal (ev_ret (exS_ret ?_)))
    exact FinV.ret rfl (SubP.tup ⟨by rw [Nat.div_eq_of_lt (hneg.1 (by omega)), lim_zero]; exact SubP.nilSl rfl, SubP.ownSl (by rw [Nat.mod_eq_of_lt (hneg.1 (by omega))]), trivial⟩)
  ·
    refine ev_skip (exS_normal (ev_seq (ev_R tabT [] 400 ?_)))
    refine ev_if (fun c3 => ?_) (fun c3 => ?_)
    ·
      refine ev_seq (ev_region tabT [] 500 rfl ?_)
      repeat (first | refine sat_same ?_ | refine sat_impA ?_ | refine sat_need (by first | exact ⟨by decide, by show 0 < _; omega⟩ | first | exact trivial | omega | exact ini (by omega) (by omega) | (intro hh; simp at hh; exact ini (by omega) (by omega)) | (intro hh; simp at hh ⊢; omega) | (simp at *; omega) | (simp_all; done)) ?_)
      refine sat_fn _ (natShort_ok a ((lim b).getD 0 0) (by omega) (by have e := one_limb (b := b) (by omega); omega) (lg_at (lim_Dg b) _)) rfl ?_
      repeat (first | refine sat_same ?_ | refine sat_impA ?_ | refine sat_need (by first | exact ⟨by decide, by show 0 < _; omega⟩ | first | exact trivial | omega | exact ini (by omega) (by omega) | (intro hh; simp at hh; exact ini (by omega) (by omega)) | (intro hh; simp at hh ⊢; omega) | (simp at *; omega) | (simp_all; done)) ?_)
      refine sat_done (exS_normal ?_)
      refine ev_seq (ev_region tabT [] 600 rfl ?_)
      refine sat_go ?_
      refine sat_fn _ ((natTrim_ok [a % (lim b).getD 0 0] (fun x hx => by have e := List.mem_singleton.1 hx; subst e; exact Nat.lt_of_lt_of_le (Nat.mod_lt _ (by have e := one_limb (b := b) (by omega); omega)) (Nat.le_of_lt (lg_at (lim_Dg b) _))) (by show 1 ≤ 100000000; omega)).args ⟨SubP.slrSl rfl, trivial⟩) rfl ?_
      refine sat_go ?_
      refine sat_done (exS_normal (ev_ret (exS_ret ?_)))
      have e := one_limb (b := b) (by omega)
      exact FinV.ret rfl (SubP.tup ⟨SubP.of_eq (by rw [e]), SubP.of_eq (by rw [e, lim_one_r]), trivial⟩)
    ·
      refine ev_skip (exS_normal ?_)
      refine ev_seq (ev_region tabT [] 700 rfl ?_)
      refine sat_go ?_
      refine sat_fn _ (natDivide_ok a b (by omega) (by omega) (lim_len_mono (by omega))) rfl ?_
      refine sat_go ?_
      refine sat_done (exS_normal (ev_ret ?_))
      exact FinV.ret rfl (SubP.refl _)
theorem natDivMod_ok (a b : Nat) (ha : (lim a).length ≤ 600) (hb : (lim b).length ≤ 600) (h0 : 0 < b) : Fn Tryz.prog 117 [usD (lim a), usD (lim b)] (.tup [usD (lim (a / b)), usD (lim (a % b)), faD 0 0]) := by
  have hbp : 0 < (lim b).length := List.length_pos_iff.2 (fun h => by rw [lim_nil] at h; omega)
  refine fn_ev tabT Tryz.func117 rfl rfl rfl rfl rfl rfl ?_
  intro w0 s0 mx
  refine ev_R tabT [] 100 ?_
  refine ev_seq ?_
  refine ev_seq (ev_region tabT [] 200 rfl ?_)
  refine sat_go ?_
  refine sat_fn _ (natCheck_ok a b ha hb) rfl ?_
  refine sat_go ?_
  refine sat_done (exS_normal (ev_R tabT [] 300 ?_))
  refine ev_if (fun c2 => ?_) (fun c2 => ?_)
  ·
    exact absurd c2 (by decide)
  ·
    refine ev_skip (exS_normal (ev_seq (ev_R tabT [] 500 ?_)))
    refine ev_if (fun c4 => ?_) (fun c4 => ?_)
    ·
      exact absurd c4 (by omega)
    ·
      refine ev_skip (exS_normal ?_)
      refine ev_seq (ev_region tabT [] 700 rfl ?_)
      refine sat_go ?_
      refine sat_fn _ (natDivMod0_ok a b (by omega) (by omega) h0) rfl ?_
      refine sat_go ?_
      refine sat_done (exS_normal (ev_R tabT [] 800 ?_))
      refine ev_ret ?_
      exact FinV.ret rfl (SubP.refl _)
end Go.Proofs.YtnkjenaanjnihaaGreatDoor


/- Walks by the evaluator: integers of the program: DivMod, Of; ranges. -/
namespace Go.Proofs.YtnkjenaanjnihaaGreatDoor
open Go.RowKit
variable {md me : Bool}
theorem lim_1 : lim 1 = [1] := by rw [lim_pos (by decide), show 1 / 4294967296 = 0 by decide, lim_zero]
theorem len_posL {n : Nat} (h : 0 < ((lim n).length : Int)) : 0 < n := by
  rcases Nat.eq_zero_or_pos n with h0 | h0
  · subst h0; rw [lim_zero] at h; exact absurd h (by decide)
  · exact h0
theorem len_nposL {n : Nat} (h : ¬ 0 < ((lim n).length : Int)) : n = 0 := by
  rcases Nat.eq_zero_or_pos n with h0 | h0
  · exact h0
  · have : (lim n) ≠ [] := fun e => by rw [lim_nil] at e; omega
    have := List.length_pos_iff.2 this
    omega
theorem lim_add_le {x y k : Nat} (hx : (lim x).length ≤ k) (hy : (lim y).length ≤ k) : (lim (x + y)).length ≤ k + 1 := by
  have h1 := Nat.lt_of_lt_of_le (lim_lt x) (Nat.pow_le_pow_right (by decide) hx)
  have h2 := Nat.lt_of_lt_of_le (lim_lt y) (Nat.pow_le_pow_right (by decide) hy)
  refine lim_length_le ?_
  rw [Nat.pow_succ]
  generalize 4294967296 ^ k = B at *
  omega
end Go.Proofs.YtnkjenaanjnihaaGreatDoor


/- Walks by the evaluator: special methods. -/
namespace Go.Proofs.YtnkjenaanjnihaaGreatDoor
open Go.RowKit
variable {md me : Bool}
end Go.Proofs.YtnkjenaanjnihaaGreatDoor


/-
  DERIVED: THE SHELF's CONTRACTS AT THIS DUMP, IN PLAIN WORDS (tools/lay-plain.mjs out of 'YtnkjenaanjnihaaGreatDoorShelf3.lean', which tools/lay-shelf.mjs wrote): THE SAME DECLARATIONS UNDER THE SAME NAMES: 'import', 'namespace', 'open', 'def', 'theorem' AND NOTHING ELSE: no command of the shelf's: FOR A HAND-IN. Each laying: the table of numbers ('.._ren') and one theorem, a field a fact of the dump's own or the kernel's comparison; each contract: ONE APPLICATION.
-/
namespace Go.Proofs
open Go.Shelf
end Go.Proofs


/- slices.Grow of nil: an empty row of its own. -/
namespace Go.Proofs.YtnkjenaanjnihaaGreatDoor
open Go.RowKit Go.Shelf
theorem grow_O {P : Program} {f : FuncId} {e : TypeId} {sz : Nat} (hb : Bod P f) (n : Nat)
    (h0 : n = 0 → ∀ w, Calls P f #[.slice none 0 0, .int .i64 n] w fun r w' => r = .returned (.slice none 0 0) ∧ w' = w)
    (h1 : 0 < n → ∀ w : World, Calls P f #[.slice none 0 0, .int .i64 n] w fun r w' => ∃ (cur : Array Value) (G : Nat), r = .returned (.slice (some ⟨w.heap.size, 0, none⟩) 0 G) ∧ w' = w.drew.alloc (.cells cur e) ∧ cur.size = G * sz ∧ G ≤ maxLen) :
    FnO P f [.v (.slice none 0 0), .v (.int .i64 n)] e sz [] := by
  refine ⟨hb, fun w s vs hlt _ hv => ?_⟩
  match vs, hv with
  | [a, b], ⟨ha, hb', _⟩ =>
    have ha : a = .slice none 0 0 := ha
    have hb' : b = .int .i64 n := hb'
    subst ha hb'
    rcases Nat.eq_zero_or_pos n with hn | hn
    · refine (h0 hn w).mono fun r w' hq => ?_
      obtain ⟨rfl, rfl⟩ := hq
      refine ⟨s, ⟨fun _ => none, fun k m => if k = 0 ∧ m = 0 then some (.slice none 0 0) else none⟩, 0, .slice none 0 0, rfl, ?_, ⟨fun m hm => ?_, _, rfl, .inl ⟨rfl, rfl⟩⟩, fun N hN => ?_, ⟨Ex.refl _ _, hlt, rfl, rfl, rfl, Nat.le_refl _, fun _ _ => rfl, fun _ _ h => .inl h, fun _ _ h => .inl h⟩⟩
      · rw [TV.P]
        exact ⟨⟨none, 0, rfl, Nat.le_refl _, by omega, (fun _ h => by cases h), fun i row h => by simp [D.pvss] at h⟩, rfl⟩
      · have hm : 0 < m := hm
        exact if_neg (by omega)
      · cases hN
    · refine (h1 hn w).mono fun r w' hq => ?_
      obtain ⟨cur, G, rfl, rfl, hc, hG⟩ := hq
      have hnew : (w.drew.alloc (.cells cur e)).heap[w.heap.size]? = some (.cells cur e (0, 0)) := heap_alloc_new w.drew _
      have hold : ∀ N, N < w.heap.size → (w.drew.alloc (.cells cur e)).heap[N]? = w.heap[N]? := fun N hN => heap_alloc_old w.drew _ hN
      have hsz : (w.drew.alloc (.cells cur e)).heap.size = w.heap.size + 1 := by
        show (w.drew.heap.push _).size = _
        rw [Array.size_push]; rfl
      refine ⟨s, ⟨fun _ => none, fun k m => if k = 0 ∧ m = 0 then some (.slice (some ⟨w.heap.size, 0, none⟩) 0 G) else none⟩, 0, .slice (some ⟨w.heap.size, 0, none⟩) 0 G, rfl, ?_, ⟨fun m hm => ?_, _, rfl, .inr ⟨w.heap.size, G, cur, rfl, .of hnew, Nat.zero_le _, hG, hc, fun o _ h => ?_⟩⟩, fun N hN => ?_, ⟨⟨fun _ _ h => h, fun b o hs => cell_block (hold b (hlt b o hs)), fun _ _ h => h⟩, fun B o h => ?_, rfl, rfl, rfl, by omega, hold, fun _ _ h => .inl h, fun _ _ h => .inl h⟩⟩
      · rw [TV.P]
        exact ⟨⟨_, G, rfl, Nat.zero_le _, by unfold maxLen at hG; omega, (fun _ h => by cases h), fun i row h => by simp [D.pvss] at h⟩, rfl⟩
      · have hm : 0 < m := hm
        exact if_neg (by omega)
      · have := hlt _ _ h; omega
      · have hN : some w.heap.size = some N := hN
        cases hN; exact Nat.le_refl _
      · have := hlt B o h; omega
end Go.Proofs.YtnkjenaanjnihaaGreatDoor


/- Walks by the evaluator: values joined; attempts of special methods. -/
namespace Go.Proofs.YtnkjenaanjnihaaGreatDoor
open Go.RowKit
variable {md me : Bool}
def st0 : St := ⟨0, vl0, 0, ByteArray.empty, vl0, []⟩
theorem SubP.slrRows {α : Type} {m : Bool} {sz : Nat} {rows : List (List D)} {l : List α} {f : α → List D} {e : α} (h : RowsP rows (l.map f)) : SubP (.slr m sz rows) (.sl m sz l f e) := fun w s v hv => by
  have h1 := rowsP_sl (m := m) (sz := sz) h (w := w) (s := s) (v := v) hv
  rw [pvss_map, List.map_map] at h1
  exact h1
end Go.Proofs.YtnkjenaanjnihaaGreatDoor


/- Walks by the evaluator: numbers of the document and of the program. -/
namespace Go.Proofs.YtnkjenaanjnihaaGreatDoor
open Go.RowKit
variable {md me : Bool}
def rD (b : Bool) (n : Nat) : D := .agg [.v (.bool b), natD n]
def qD (b : Bool) (n d : Nat) : D := .agg [.v (.bool b), natD n, natD d]
def zeroB : ByteArray := ⟨#[100, 105, 118, 105, 115, 105, 111, 110, 32, 98, 121, 32, 122, 101, 114, 111]⟩
def flS (c : Int) : St := if c = 0 then st0 else if c = 22 then raS 41 zeroB else raS 42 tooB
theorem IntOf3_ok (b : Bool) (l : List Nat) (hg : Lg l) (hl : l.length ≤ 100000000) : Fn Tryz.prog 24 [.agg [.v (.bool b), usD l]] (rD b (VL l)) := by
  refine fn_ev tabT Tryz.func24 rfl rfl rfl rfl rfl rfl ?_
  intro w0 s0 mx
  refine ev_R tabT [] 100 ?_
  refine ev_seq (ev_drawn tabT [] [[], [0], [], [2], [2, 3], [0, 1, 2, 3, 4], [0, 1, 2, 3, 4, 5]] 200 mixT (by kernel_rfl) rfl ?_)
  refine sat_go ?_
  refine sat_fn _ (Of3_ok _ (by first | assumption | omega | (simp_all; done)) (by first | assumption | omega | (simp_all; done))) rfl ?_
  refine sat_go ?_
  refine sat_done (exS_normal (ev_ret ?_))
  exact FinV.ret rfl (SubP.refl _)
theorem RatioOf_ok (b c : Bool) (l m : List Nat) (hg : Lg l) (hl : l.length ≤ 100000000) (hm : Lg m) (hn : m.length ≤ 100000000) : Fn Tryz.prog 22 [.agg [.v (.bool b), usD l, .v (.bool c), usD m]] (qD b (VL l) (VL m)) := by
  refine fn_ev tabT Tryz.func22 rfl rfl rfl rfl rfl rfl ?_
  intro w0 s0 mx
  refine ev_R tabT [] 100 ?_
  refine ev_seq (ev_drawn tabT [] [[], [0], [0, 1], [], [3], [3, 4], [0, 1, 2, 3, 4, 5], [0, 1, 2, 3, 4, 5, 6], [0, 1, 2, 3, 4, 5, 6, 7]] 200 mixT (by kernel_rfl) rfl ?_)
  refine sat_go ?_
  refine sat_fn _ (IntOf3_ok b l hg hl) rfl ?_
  refine sat_go ?_
  refine sat_fn _ (Of3_ok m hm hn) rfl ?_
  refine sat_go ?_
  refine sat_done (exS_normal (ev_ret ?_))
  exact FinV.ret rfl (SubP.refl _)
theorem Whole3_ok (b : Bool) (n : Nat) : Fn Tryz.prog 23 [rD b n] (qD b n 1) := by
  refine fn_ev tabT Tryz.func23 rfl rfl rfl rfl rfl rfl ?_
  intro w0 s0 mx
  refine ev_R tabT [] 100 ?_
  refine ev_seq (ev_drawn tabT [] [[], [], [0, 1], [0, 1, 2]] 200 mixT (by kernel_rfl) rfl ?_)
  refine sat_go ?_
  refine sat_fn _ (Small3_ok 1 (by omega) (by omega)) rfl ?_
  refine sat_go ?_
  refine sat_done (exS_normal (ev_ret ?_))
  exact FinV.ret rfl (SubP.refl _)
theorem Number7_ok (v : Vl) (hg : Lg v.nl) (hl : v.nl.length ≤ 100000000) (hm : Lg v.dl) (hn : v.dl.length ≤ 100000000) : Fn Tryz.prog 8 [.agg (vlD v)] (qD v.nn (VL v.nl) (if v.k = 3 then VL v.dl else 1)) := by
  refine fn_ev tabT Tryz.func8 rfl rfl rfl rfl rfl rfl ?_
  intro w0 s0 mx
  refine ev_R tabT [] 100 ?_
  refine ev_seq (ev_R tabT [] 200 ?_)
  refine ev_if (fun c1 => ?_) (fun c1 => ?_)
  ·
    refine ev_seq (ev_region tabT [] 300 rfl ?_)
    refine sat_go ?_
    refine sat_fn _ (RatioOf_ok v.nn v.dn v.nl v.dl hg hl hm hn) rfl ?_
    refine sat_go ?_
    refine sat_done (exS_normal (ev_ret (exS_ret ?_)))
    exact FinV.ret rfl (SubP.of_eq (by rw [if_pos (by simpa using c1)]; rfl))
  ·
    refine ev_skip (exS_normal ?_)
    refine ev_seq (ev_region tabT [] 400 rfl ?_)
    refine sat_go ?_
    refine sat_fn _ (IntOf3_ok v.nn v.nl hg hl) rfl ?_
    refine sat_go ?_
    refine sat_fn _ (Whole3_ok _ _) rfl ?_
    refine sat_go ?_
    refine sat_done (exS_normal (ev_ret ?_))
    exact FinV.ret rfl (SubP.of_eq (by rw [if_neg (by simpa using c1)]; rfl))
theorem IsNumber_ok (v : Vl) : Fn Tryz.prog 5 [.agg (vlD v)] (.v (.bool (decide (v.k = 2) || decide (v.k = 3)))) := by
  refine fn_ev tabT Tryz.func5 rfl rfl rfl rfl rfl rfl ?_
  intro w0 s0 mx
  refine ev_R tabT [] 100 ?_
  refine ev_R tabT [] 200 ?_
  refine ev_ret ?_
  exact FinV.ret rfl (SubP.refl _)
theorem opValue_ok (v : Vl) : Fn Tryz.prog 92 [.agg (vlD v)] (.agg (stD (vlS v))) := by
  refine fn_ev tabT Tryz.func92 rfl rfl rfl rfl rfl rfl ?_
  intro w0 s0 mx
  refine ev_R tabT [] 100 ?_
  refine ev_R tabT [] 200 ?_
  refine ev_ret ?_
  exact FinV.ret rfl (SubP.agg (by repeat (first | exact trivial | exact SubP.refl _ | exact SubP.nilSl rfl | refine ⟨?_, ?_⟩)))
theorem opRaise_ok (c : Int) (s : ByteArray) : Fn Tryz.prog 45 [.v (.int .i64 c), .v (.string s)] (.agg (stD (raS c s))) := by
  refine fn_ev tabT Tryz.func45 rfl rfl rfl rfl rfl rfl ?_
  intro w0 s0 mx
  refine ev_R tabT [] 100 ?_
  refine ev_R tabT [] 200 ?_
  refine ev_ret ?_
  exact FinV.ret rfl (SubP.agg (by repeat (first | exact trivial | exact SubP.refl _ | exact SubP.nilSl rfl | refine ⟨?_, ?_⟩)))
theorem opLimit_ok  : Fn Tryz.prog 94 [] (.agg (stD (raS 42 tooB))) := by
  refine fn_ev tabT Tryz.func94 rfl rfl rfl rfl rfl rfl ?_
  intro w0 s0 mx
  refine ev_R tabT [] 100 ?_
  refine ev_seq (ev_region tabT [] 200 rfl ?_)
  refine sat_go ?_
  refine sat_fn _ (opRaise_ok _ _) rfl ?_
  refine sat_go ?_
  refine sat_done (exS_normal (ev_ret ?_))
  exact FinV.ret rfl (SubP.refl _)
theorem opFailed_ok (c i : Int) : Fn Tryz.prog 129 [faD c i] (.tup [.agg (stD (flS c)), .v (.bool (decide (¬ c = 0)))]) := by
  refine fn_ev tabT Tryz.func129 rfl rfl rfl rfl rfl rfl ?_
  intro w0 s0 mx
  refine ev_R tabT [] 100 ?_
  refine ev_seq (ev_R tabT [] 200 ?_)
  refine ev_block (ev_R tabT [] 300 ?_)
  refine ev_if (fun c2 => ?_) (fun c2 => ?_)
  ·
    refine ev_R tabT [] 400 ?_
    refine ev_ret (exBl_ret (exS_ret ?_))
    exact FinV.ret rfl (SubP.tup ⟨SubP.agg (by rw [flS, if_pos c2]; repeat (first | exact trivial | exact SubP.refl _ | exact SubP.nilSl rfl | refine ⟨?_, ?_⟩)), SubP.bool (by simp [c2]), trivial⟩)
  ·
    refine ev_R tabT [] 500 ?_
    refine ev_if (fun c4 => ?_) (fun c4 => ?_)
    ·
      refine ev_seq (ev_region tabT [] 600 rfl ?_)
      refine sat_go ?_
      refine sat_fn _ (opRaise_ok _ _) rfl ?_
      refine sat_go ?_
      refine sat_done (exS_normal (ev_ret (exBl_ret (exS_ret ?_))))
      exact FinV.ret rfl (SubP.tup ⟨SubP.of_eq (by rw [flS, if_neg c2, if_pos c4]; rfl), SubP.bool (by simp [c2]), trivial⟩)
    ·
      refine ev_skip (exBl_normal (exS_normal ?_))
      refine ev_seq (ev_region tabT [] 700 rfl ?_)
      refine sat_go ?_
      refine sat_fn _ (opLimit_ok) rfl ?_
      refine sat_go ?_
      refine sat_done (exS_normal (ev_ret ?_))
      exact FinV.ret rfl (SubP.tup ⟨SubP.of_eq (by rw [flS, if_neg c2, if_neg c4]; rfl), SubP.bool (by simp [c2]), trivial⟩)
end Go.Proofs.YtnkjenaanjnihaaGreatDoor


/- Walks by the evaluator: unary operators. -/
namespace Go.Proofs.YtnkjenaanjnihaaGreatDoor
open Go.RowKit
variable {md me : Bool}
end Go.Proofs.YtnkjenaanjnihaaGreatDoor


/- Numbers as fractions in lowest terms. Plain (statements 41 and 42). -/
namespace Go.Proofs.YtnkjenaanjnihaaGreatDoor
namespace Qr
open Go.RowKit
def vQ (n : Int) (d : Nat) : Vl := if d = 1 then nuV n else ⟨3, decide (n < 0), lim n.natAbs, false, lim d, ByteArray.empty, 0⟩
structure Q (n : Int) (d : Nat) : Prop where
  d0 : 0 < d
  co : Nat.gcd n.natAbs d = 1
  nl : (lim n.natAbs).length ≤ 128
  dl : (lim d).length ≤ 128
def rN (z : Int) (d : Nat) : Int := ZI (decide (z < 0)) (z.natAbs / Nat.gcd z.natAbs d)
def rD (z : Int) (d : Nat) : Nat := d / Nat.gcd z.natAbs d
theorem ZI_abs (b : Bool) (n : Nat) : (ZI b n).natAbs = n := by
  unfold ZI
  split
  · rw [Int.natAbs_neg]; rfl
  · rfl
theorem rN_abs (z : Int) (d : Nat) : (rN z d).natAbs = z.natAbs / Nat.gcd z.natAbs d := ZI_abs _ _
theorem rN_mul (z : Int) (d : Nat) : rN z d * (Nat.gcd z.natAbs d : Nat) = z := by
  have h1 : z.natAbs / Nat.gcd z.natAbs d * Nat.gcd z.natAbs d = z.natAbs := Nat.div_mul_cancel (Nat.gcd_dvd_left _ _)
  have h2 : ((z.natAbs / Nat.gcd z.natAbs d : Nat) : Int) * (Nat.gcd z.natAbs d : Nat) = (z.natAbs : Nat) := by
    rw [← Int.natCast_mul, h1]
  unfold rN ZI
  by_cases hz : z < 0
  · rw [decide_eq_true hz, if_pos rfl, Int.neg_mul, h2]; omega
  · rw [decide_eq_false hz, if_neg (by decide), h2]; omega
theorem rD_mul (z : Int) (d : Nat) : rD z d * Nat.gcd z.natAbs d = d := Nat.div_mul_cancel (Nat.gcd_dvd_right _ _)
theorem rD_pos {z : Int} {d : Nat} (h : 0 < d) : 0 < rD z d := by
  have h1 := rD_mul z d
  rcases Nat.eq_zero_or_pos (rD z d) with h2 | h2
  · rw [h2, Nat.zero_mul] at h1; omega
  · exact h2
theorem r_co {z : Int} {d : Nat} (h : 0 < d) : Nat.gcd (rN z d).natAbs (rD z d) = 1 := by
  rw [rN_abs]
  exact Nat.gcd_div_gcd_div_gcd_of_pos_right h
theorem r_rat {z : Int} {d : Nat} (h : 0 < d) : mkRat (rN z d) (rD z d) = mkRat z d := by
  rw [Rat.mkRat_eq_iff (by have := rD_pos (z := z) h; omega) (by omega)]
  have h1 := rN_mul z d
  have h2 := rD_mul z d
  have h3 : (d : Int) = (rD z d : Nat) * (Nat.gcd z.natAbs d : Nat) := by rw [← Int.natCast_mul, h2]
  rw [h3]
  grind
theorem co_uniq {a d b e : Nat} (hd : 0 < d) (h1 : Nat.gcd a d = 1) (h2 : Nat.gcd b e = 1) (h : a * e = b * d) : a = b ∧ d = e := by
  have h3 : d ∣ e := Nat.Coprime.dvd_of_dvd_mul_left (m := a) (by rw [Nat.coprime_comm]; exact h1) ⟨b, by rw [h, Nat.mul_comm]⟩
  have h4 : e ∣ d := Nat.Coprime.dvd_of_dvd_mul_left (m := b) (by rw [Nat.coprime_comm]; exact h2) ⟨a, by rw [← h, Nat.mul_comm]⟩
  have h5 := Nat.dvd_antisymm h3 h4
  subst h5
  exact ⟨Nat.eq_of_mul_eq_mul_right hd h, rfl⟩
theorem uniq {n m : Int} {d e : Nat} (p : Q n d) (q : Q m e) (h : mkRat n d = mkRat m e) : n = m ∧ d = e := by
  have hd := p.d0
  have he := q.d0
  rw [Rat.mkRat_eq_iff (by omega) (by omega)] at h
  have h1 := congrArg Int.natAbs h
  rw [Int.natAbs_mul, Int.natAbs_mul, Int.natAbs_natCast, Int.natAbs_natCast] at h1
  obtain ⟨h2, h3⟩ := co_uniq hd p.co q.co h1
  subst h3
  exact ⟨Int.eq_of_mul_eq_mul_right (by omega) h, rfl⟩
def nV (v : Vl) : Int := ZI v.nn (VL v.nl)
def dV (v : Vl) : Nat := if v.k = 3 then VL v.dl else 1
def qV (v : Vl) : Rat := mkRat (nV v) (dV v)
structure Nm (v : Vl) : Prop where
  k : v.k = 2 ∨ v.k = 3
  q : Q (nV v) (dV v)
  e : v = vQ (nV v) (dV v)
theorem vq_nm {n : Int} {d : Nat} (q : Q n d) : nV (vQ n d) = n ∧ dV (vQ n d) = d ∧ Nm (vQ n d) := by
  have h : nV (vQ n d) = n ∧ dV (vQ n d) = d ∧ ((vQ n d).k = 2 ∨ (vQ n d).k = 3) := by
    unfold vQ
    split
    · rename_i h1
      refine ⟨?_, h1.symm, .inl rfl⟩
      show ZI (decide (n < 0)) (VL (lim n.natAbs)) = n
      rw [L_dig, ZI_of]
    · refine ⟨?_, ?_, .inr rfl⟩
      · show ZI (decide (n < 0)) (VL (lim n.natAbs)) = n
        rw [L_dig, ZI_of]
      · show VL (lim d) = d
        rw [L_dig]
  exact ⟨h.1, h.2.1, h.2.2, by rw [h.1, h.2.1]; exact q, by rw [h.1, h.2.1]⟩
theorem nm_eq {v w : Vl} (p : Nm v) (q : Nm w) (h : qV v = qV w) : v = w := by
  obtain ⟨h1, h2⟩ := uniq p.q q.q h
  rw [p.e, q.e, h1, h2]
theorem nm_of {v : Vl} (gn : Lg v.nl) (gd : Lg v.dl) (hk : v.k = 2 ∨ v.k = 3) (hv : vokS v = true) : Nm v := by
  have h1 : intOk v.nn v.nl = true ∧ v.s = ByteArray.empty ∧ v.r = 0 := by
    rcases hk with hk | hk
    · rw [vokS, if_neg (by omega), if_neg (by omega), if_pos hk] at hv
      simp only [Bool.and_eq_true, decide_eq_true_eq, emS] at hv
      exact ⟨hv.1.1.1, hv.1.2, hv.2⟩
    · rw [vokS, if_neg (by omega), if_neg (by omega), if_neg (by omega), if_pos hk] at hv
      simp only [Bool.and_eq_true, decide_eq_true_eq, emS, ratS] at hv
      exact ⟨hv.1.1.1.1.1.1, hv.1.2, hv.2⟩
  obtain ⟨e1, e2, e3⟩ := int_ok gn h1.1
  have hab : (nV v).natAbs = VL v.nl := ZI_abs _ _
  have hnl : (lim (nV v).natAbs).length ≤ 128 := by rw [hab, ← e1]; exact e3
  rcases hk with hk | hk
  · have hd : dV v = 1 := if_neg (by omega)
    rw [vokS, if_neg (by omega), if_neg (by omega), if_pos hk] at hv
    simp only [Bool.and_eq_true, decide_eq_true_eq, zI, smI_iff] at hv
    have hdn := hv.1.1.2
    refine ⟨.inl hk, by rw [hd]; exact ⟨by decide, Nat.gcd_one_right _, hnl, by decide +kernel⟩, ?_⟩
    rw [hd, vQ, if_pos rfl]
    obtain ⟨k, nn, nl, dn, dl, s, r⟩ := v
    have a1 : k = 2 := hk
    have a2 : dn = false := hdn.1
    have a3 : dl = [] := hdn.2
    have a4 : s = ByteArray.empty := h1.2.1
    have a5 : r = 0 := h1.2.2
    subst a1; subst a2; subst a3; subst a4; subst a5
    show Vl.mk 2 nn nl false [] ByteArray.empty 0 = Vl.mk 2 (decide (nV _ < 0)) (lim (nV _).natAbs) false [] ByteArray.empty 0
    rw [hab]
    congr 1
  · have hd : dV v = VL v.dl := if_pos hk
    rw [vokS, if_neg (by omega), if_neg (by omega), if_neg (by omega), if_pos hk] at hv
    simp only [Bool.and_eq_true, decide_eq_true_eq, ratS, Bool.not_eq_true'] at hv
    have hr := hv.1.1.1
    have hdn : v.dn = false := hr.1.2.1
    have hd0 := hr.1.2.2
    obtain ⟨f1, f2, f3⟩ := int_ok gd hr.1.1.2
    have hpos : 0 < VL v.dl := by
      rcases Nat.eq_zero_or_pos (VL v.dl) with h9 | h9
      · rw [h9, lim_zero] at f1; rw [f1] at hd0; cases hd0
      · exact h9
    have hco : Nat.gcd (VL v.nl) (VL v.dl) = 1 := by
      have h9 := hr.2
      rw [beq_iff_eq] at h9
      unfold cmpN at h9
      split at h9
      · exact absurd h9 (by decide)
      · split at h9
        · exact absurd h9 (by decide)
        · omega
    have hne : VL v.dl ≠ 1 := fun h9 => by
      have h8 := hv.1.1.2
      rw [h9, show lim 1 = [1] from by decide +kernel] at f1
      rw [f1] at h8
      exact absurd h8 (by decide)
    refine ⟨.inr hk, by rw [hd]; exact ⟨hpos, by rw [hab]; exact hco, hnl, by rw [← f1]; exact f3⟩, ?_⟩
    rw [hd, vQ, if_neg hne]
    obtain ⟨k, nn, nl, dn, dl, s, r⟩ := v
    have a1 : k = 3 := hk
    have a2 : dn = false := hdn
    have a4 : s = ByteArray.empty := h1.2.1
    have a5 : r = 0 := h1.2.2
    subst a1; subst a2; subst a4; subst a5
    show Vl.mk 3 nn nl false dl ByteArray.empty 0 = Vl.mk 3 (decide (nV _ < 0)) (lim (nV _).natAbs) false (lim (VL dl)) ByteArray.empty 0
    rw [hab]
    have b1 : nl = lim (VL nl) := e1
    have b2 : nn = decide (nV ⟨3, nn, nl, false, dl, ByteArray.empty, 0⟩ < 0) := e2
    have b3 : dl = lim (VL dl) := f1
    rw [← b1, ← b2, ← b3]
def fits (z : Int) (d : Nat) : Bool := decide ((lim (rN z d).natAbs).length ≤ 128) && decide ((lim (rD z d)).length ≤ 128)
def opQ (z : Int) (d : Nat) : St := if fits z d = true then vlS (vQ (rN z d) (rD z d)) else raS 42 tooB
theorem op_ok {z : Int} {d : Nat} (h : 0 < d) (hk : (opQ z d).k = 0) : Nm (opQ z d).v ∧ qV (opQ z d).v = mkRat z d := by
  unfold opQ at hk ⊢
  split at hk
  · rename_i hf
    rw [if_pos hf]
    unfold fits at hf
    rw [Bool.and_eq_true, decide_eq_true_eq, decide_eq_true_eq] at hf
    have q : Q (rN z d) (rD z d) := ⟨rD_pos h, r_co h, hf.1, hf.2⟩
    have hn := vq_nm q
    refine ⟨hn.2.2, ?_⟩
    show mkRat (nV (vQ _ _)) (dV (vQ _ _)) = _
    rw [hn.1, hn.2.1, r_rat h]
  · exact absurd hk (show ¬ (1 : Int) = 0 by decide)
def addS (v w : Vl) : St := opQ (nV v * dV w + nV w * dV v) (dV v * dV w)
def subS (v w : Vl) : St := opQ (nV v * dV w - nV w * dV v) (dV v * dV w)
def mulS (v w : Vl) : St := opQ (nV v * nV w) (dV v * dV w)
def divS (v w : Vl) : St := if nV w = 0 then raS 41 zeroB else opQ (ZI (decide (nV v < 0) != decide (nV w < 0)) (nV v * dV w).natAbs) (dV v * (nV w).natAbs)
section
variable {v w : Vl} (p : Nm v) (q : Nm w)
include p q
theorem add_ok (hk : (addS v w).k = 0) : Nm (addS v w).v ∧ qV (addS v w).v = qV v + qV w := by
  have h1 := p.q.d0
  have h2 := q.q.d0
  have h := op_ok (Nat.mul_pos h1 h2) hk
  refine ⟨h.1, h.2.trans ?_⟩
  unfold qV
  rw [Rat.mkRat_add_mkRat _ _ (by omega) (by omega)]
theorem sub_ok (hk : (subS v w).k = 0) : Nm (subS v w).v ∧ qV (subS v w).v = qV v - qV w := by
  have h1 := p.q.d0
  have h2 := q.q.d0
  have h := op_ok (Nat.mul_pos h1 h2) hk
  refine ⟨h.1, h.2.trans ?_⟩
  unfold qV
  rw [Rat.sub_eq_add_neg, Rat.neg_mkRat, Rat.mkRat_add_mkRat _ _ (by omega) (by omega), Int.neg_mul, ← Int.sub_eq_add_neg]
theorem mul_ok (hk : (mulS v w).k = 0) : Nm (mulS v w).v ∧ qV (mulS v w).v = qV v * qV w := by
  have h1 := p.q.d0
  have h2 := q.q.d0
  have h := op_ok (Nat.mul_pos h1 h2) hk
  refine ⟨h.1, h.2.trans ?_⟩
  unfold qV
  rw [Rat.mkRat_mul_mkRat]
theorem div_rat (h0 : nV w ≠ 0) : mkRat (ZI (decide (nV v < 0) != decide (nV w < 0)) (nV v * dV w).natAbs) (dV v * (nV w).natAbs) * qV w = qV v := by
  have h1 := p.q.d0
  have h2 := q.q.d0
  unfold qV
  rw [Rat.mkRat_mul_mkRat, Rat.mkRat_eq_iff (by have := Nat.mul_pos (Nat.mul_pos h1 (show 0 < (nV w).natAbs by omega)) h2; omega) (by omega)]
  rw [Int.natAbs_mul, Int.natAbs_natCast]
  unfold ZI
  generalize nV v = a at *
  generalize nV w = b at *
  push_cast
  by_cases ha : a < 0
  · by_cases hb : b < 0
    · rw [decide_eq_true ha, decide_eq_true hb]
      simp only [bne_self_eq_false, Bool.false_eq_true, if_false]
      rw [Int.ofNat_natAbs_of_nonpos (by omega), Int.ofNat_natAbs_of_nonpos (by omega)]
      grind
    · rw [decide_eq_true ha, decide_eq_false hb]
      simp only [Bool.bne_false, if_true]
      rw [Int.ofNat_natAbs_of_nonpos (by omega), Int.natAbs_of_nonneg (by omega)]
      grind
  · by_cases hb : b < 0
    · rw [decide_eq_false ha, decide_eq_true hb]
      simp only [Bool.false_bne, if_true]
      rw [Int.ofNat_natAbs_of_nonpos (show b ≤ 0 by omega), Int.natAbs_of_nonneg (by omega)]
      grind
    · rw [decide_eq_false ha, decide_eq_false hb]
      simp only [bne_self_eq_false, Bool.false_eq_true, if_false]
      rw [Int.natAbs_of_nonneg (by omega), Int.natAbs_of_nonneg (by omega)]
      grind
end
end Qr
end Go.Proofs.YtnkjenaanjnihaaGreatDoor


/- The laws of numbers. Plain (statements 41 and 42). -/
namespace Go.Proofs.YtnkjenaanjnihaaGreatDoor
namespace Qr
open Go.RowKit
theorem op_eq {z : Int} {d : Nat} {v : Vl} (h : 0 < d) (p : Nm v) (e : mkRat z d = qV v) : opQ z d = vlS v := by
  have h0 := p.q.d0
  have h1 : mkRat (rN z d) (rD z d) = mkRat (nV v) (dV v) := (r_rat h).trans e
  have h2 := rD_pos (z := z) h
  rw [Rat.mkRat_eq_iff (by omega) (by omega)] at h1
  have h3 := congrArg Int.natAbs h1
  rw [Int.natAbs_mul, Int.natAbs_mul, Int.natAbs_natCast, Int.natAbs_natCast] at h3
  obtain ⟨h4, h5⟩ := co_uniq h2 (r_co h) p.q.co h3
  have h6 : rN z d = nV v := by
    rw [h5] at h1
    exact Int.eq_of_mul_eq_mul_right (by omega) h1
  have hf : fits z d = true := by
    unfold fits
    rw [h6, h5, decide_eq_true p.q.nl, decide_eq_true p.q.dl]
    rfl
  unfold opQ
  rw [if_pos hf, h6, h5, ← p.e]
theorem q_ne {v : Vl} (p : Nm v) (h : nV v ≠ 0) : qV v ≠ 0 := fun e => by
  have h0 := p.q.d0
  unfold qV at e
  rw [show (0 : Rat) = mkRat 0 1 from by decide +kernel, Rat.mkRat_eq_iff (by omega) (by decide)] at e
  have : nV v * ((1 : Nat) : Int) = 0 := by rw [e, Int.zero_mul]
  omega
theorem div_eq {m a b : Vl} (pm : Nm m) (pa : Nm a) (pb : Nm b) (h0 : nV b ≠ 0) (e : qV m = qV a * qV b) : divS m b = vlS a := by
  have h1 := pm.q.d0
  have h2 := pb.q.d0
  have hb := q_ne pb h0
  have hd : 0 < dV m * (nV b).natAbs := Nat.mul_pos h1 (by omega)
  have hq := div_rat pm pb h0
  unfold divS
  rw [if_neg h0]
  refine op_eq hd pa ?_
  generalize mkRat _ (dV m * (nV b).natAbs) = X at *
  rw [e] at hq
  generalize qV a = A at *
  generalize qV b = B at *
  grind
theorem law42 {a b c s t m n w x y : Vl} (pa : Nm a) (pb : Nm b) (pc : Nm c) (hs : addS a b = vlS s) (ht : addS b a = vlS t) (hm : mulS a b = vlS m) (hn : mulS b a = vlS n) (hw : mulS s c = vlS w) (hx : mulS a c = vlS x) (hy : mulS b c = vlS y) :
    s = t ∧ m = n ∧ (∀ {z back : Vl}, addS x y = vlS z → subS s b = vlS back → w = z ∧ back = a ∧ (nV b ≠ 0 → divS m b = vlS a)) := by
  have k0 : ∀ {S : St} {v : Vl}, S = vlS v → S.k = 0 := fun h => by rw [h]; rfl
  have e0 : ∀ {S : St} {v : Vl}, S = vlS v → S.v = v := fun h => by rw [h]; rfl
  have os := add_ok pa pb (k0 hs)
  have ot := add_ok pb pa (k0 ht)
  have om := mul_ok pa pb (k0 hm)
  have on := mul_ok pb pa (k0 hn)
  rw [e0 hs] at os
  rw [e0 ht] at ot
  rw [e0 hm] at om
  rw [e0 hn] at on
  have ow := mul_ok os.1 pc (k0 hw)
  have ox := mul_ok pa pc (k0 hx)
  have oy := mul_ok pb pc (k0 hy)
  rw [e0 hw] at ow
  rw [e0 hx] at ox
  rw [e0 hy] at oy
  refine ⟨nm_eq os.1 ot.1 (by rw [os.2, ot.2]; grind), nm_eq om.1 on.1 (by rw [om.2, on.2]; grind), fun {z back} hz hb => ?_⟩
  have oz := add_ok ox.1 oy.1 (k0 hz)
  have ob := sub_ok os.1 pb (k0 hb)
  rw [e0 hz] at oz
  rw [e0 hb] at ob
  exact ⟨nm_eq ow.1 oz.1 (by rw [ow.2, oz.2, os.2, ox.2, oy.2]; grind), nm_eq ob.1 pa (by rw [ob.2, os.2]; grind), fun h0 => div_eq om.1 pa pb h0 om.2⟩
end Qr
end Go.Proofs.YtnkjenaanjnihaaGreatDoor


/- Division of numbers with a remainder. Plain (statement 41). -/
namespace Go.Proofs.YtnkjenaanjnihaaGreatDoor
namespace Qr
open Go.RowKit
end Qr
end Go.Proofs.YtnkjenaanjnihaaGreatDoor


/- Walks by the evaluator: fractions of the program: Gcd, Valid, Add, Sub, Mul, Div. -/
namespace Go.Proofs.YtnkjenaanjnihaaGreatDoor
open Go.RowKit
variable {md me : Bool}
def fV (n : Int) (d : Nat) : List D := [.v (.bool (decide (n < 0))), usD (lim n.natAbs), .v (.bool false), usD (lim d)]
def fX (x : Int × Nat) : List D := fV x.1 x.2
def frD (n : Int) (d : Nat) (c i : Int) : D := .tup [.agg (fV n d), faD c i]
def frN (z : Int) (d : Nat) : Int := if Qr.fits z d = true then Qr.rN z d else 0
def frE (z : Int) (d : Nat) : Nat := if Qr.fits z d = true then Qr.rD z d else 0
def frC (z : Int) (d : Nat) : Int := if Qr.fits z d = true then 0 else 14
def frI (z : Int) (d : Nat) : Int := if Qr.fits z d = true then 0 else -1
def redD (z : Int) (d : Nat) : D := frD (frN z d) (frE z d) (frC z d) (frI z d)
structure Eu (a b : Nat) where
  x : Nat
  y : Nat
  g : Nat.gcd x y = Nat.gcd a b
  lx : (lim x).length ≤ 600
  ly : (lim y).length ≤ 600
def Eu.next {a b : Nat} (e : Eu a b) (h : 0 < e.y) : Eu a b := ⟨e.y, e.x % e.y, by rw [← e.g, Nat.gcd_comm e.x e.y, Nat.gcd_rec e.y e.x, Nat.gcd_comm], e.ly, Nat.le_trans (lim_len_mono (Nat.le_of_lt (Nat.mod_lt _ h))) e.ly⟩
theorem Eu.fin {a b : Nat} (e : Eu a b) (h : e.y = 0) : e.x = Nat.gcd a b := by rw [← e.g, h, Nat.gcd_zero_right]
theorem lim_mulL {x y k m : Nat} (hx : (lim x).length ≤ k) (hy : (lim y).length ≤ m) : (lim (x * y)).length ≤ k + m := by
  have h1 := Nat.lt_of_lt_of_le (lim_lt x) (Nat.pow_le_pow_right (by decide) hx)
  have h2 := Nat.lt_of_lt_of_le (lim_lt y) (Nat.pow_le_pow_right (by decide) hy)
  refine lim_length_le ?_
  rw [Nat.pow_add]
  exact Nat.mul_lt_mul'' h1 h2
theorem ZI_lt (b : Bool) (n : Nat) : decide (ZI b n < 0) = (b && decide (0 < n)) := by
  cases b
  · unfold ZI; simp
  · unfold ZI; simp
theorem red_fits {b : Bool} {n d : Nat} : Qr.fits (ZI b n) d = (decide ((lim (n / Nat.gcd n d)).length ≤ 128) && decide ((lim (d / Nat.gcd n d)).length ≤ 128)) := by
  unfold Qr.fits Qr.rD
  rw [Qr.rN_abs, Qr.ZI_abs]
theorem red_neg (b : Bool) (n d : Nat) : decide (Qr.rN (ZI b n) d < 0) = (b && decide (0 < ((lim (n / Nat.gcd n d)).length : Int))) := by
  unfold Qr.rN
  rw [ZI_lt, ZI_lt, Qr.ZI_abs]
  by_cases hl : 0 < ((lim (n / Nat.gcd n d)).length : Int)
  · have hq := len_posL hl
    have hn : 0 < n := Nat.lt_of_lt_of_le hq (Nat.div_le_self _ _)
    rw [decide_eq_true hq, decide_eq_true hl, decide_eq_true hn, Bool.and_true]
  · have hq := len_nposL hl
    rw [hq, decide_eq_false (Nat.lt_irrefl 0), Bool.and_false, ← hq, decide_eq_false hl, Bool.and_false]
theorem redY {b : Bool} {n d : Nat} (h : Qr.fits (ZI b n) d = true) : redD (ZI b n) d = .tup [.agg [.v (.bool (b && decide (0 < ((lim (n / Nat.gcd n d)).length : Int)))), usD (lim (n / Nat.gcd n d)), .v (.bool false), usD (lim (d / Nat.gcd n d))], faD 0 0] := by
  unfold redD frN frE frC frI frD fV
  rw [if_pos h, if_pos h, if_pos h, if_pos h, red_neg, Qr.rN_abs, Qr.ZI_abs]
  unfold Qr.rD
  rw [Qr.ZI_abs]
theorem fV_0 : fV 0 0 = [.v (.bool false), usD [], .v (.bool false), usD []] := by
  unfold fV
  rw [show (0 : Int).natAbs = 0 from rfl, lim_zero]
  rfl
theorem fV_nil : SubP (.agg [.v (.bool false), .v (.slice none 0 0), .v (.bool false), .v (.slice none 0 0)]) (.agg (fV 0 0)) := by
  rw [fV_0]
  exact SubP.agg ⟨SubP.refl _, SubP.nilSl rfl, SubP.refl _, SubP.nilSl rfl, trivial⟩
theorem redN {z : Int} {d : Nat} (h : Qr.fits z d = false) : redD z d = frD 0 0 14 (-1) := by
  have h : ¬ Qr.fits z d = true := by rw [h]; decide
  unfold redD frN frE frC frI
  rw [if_neg h, if_neg h, if_neg h, if_neg h]
theorem gcd_l {n d k : Nat} (h0 : 0 < d) (h : (lim d).length ≤ k) : (lim (Nat.gcd n d)).length ≤ k := Nat.le_trans (lim_len_mono (Nat.gcd_le_right _ h0)) h
theorem qOk {n : Int} {d : Nat} (q : Qr.Q n d) : intOk (decide (n < 0)) (lim n.natAbs) = true := zOk q.nl
theorem qOk2 {n : Int} {d : Nat} (q : Qr.Q n d) : intOk false (lim d) = true := by
  have h := zOk (z := (d : Int)) q.dl
  rw [decide_eq_false (by omega), Int.natAbs_natCast] at h
  exact h
theorem natGcd_ok (a b : Nat) (ha : (lim a).length ≤ 600) (hb : (lim b).length ≤ 600) : Fn Tryz.prog 149 [usD (lim a), usD (lim b)] (.tup [usD (lim (Nat.gcd a b)), faD 0 0]) := by
  refine fn_ev tabT Tryz.func149 rfl rfl rfl rfl rfl rfl ?_
  intro w0 s0 mx
  refine ev_R tabT [] 100 ?_
  refine ev_seq ?_
  refine ev_seq (ev_region tabT [] 200 rfl ?_)
  refine sat_go ?_
  refine sat_fn _ (natCheck_ok a b ha hb) rfl ?_
  refine sat_go ?_
  refine sat_done (exS_normal (ev_R tabT [] 300 ?_))
  refine ev_if (fun c2 => ?_) (fun c2 => ?_)
  ·
    exact absurd c2 (by decide)
  ·
    refine ev_skip (exS_normal ?_)
    refine ev_seq (ev_region tabT [17] 500 rfl ?_)
    refine sat_go ?_
    refine sat_fnO _ _ _ (CloneU_ok (lim a) (by omega)) ?_
    refine sat_go ?_
    refine sat_done (exS_normal (ev_seq (ev_block ?_)))
    refine ev_loopK (ι := Eu a b) [5] [1] 550 (fun x => [(0, usD (lim x.x)), (1, usD (lim x.y))]) (fun _ => []) (fun x => x.y) ⟨a, b, rfl, ha, hb⟩ ?_
    refine ⟨⟨⟨Sub.ownSl rfl, Sub.refl _, le_t⟩, le_o, rfl, rfl⟩, fun x => ?_⟩
    skip
    refine ev_seq (ev_R tabT [] 600 ?_)
    refine ev_cond rfl (fun c5 => ?_) (fun c5 => ?_)
    · have hy := len_posL (of_decide_eq_true c5)
      refine ev_skip (exS_normal (ev_block ?_))
      refine ev_seq (ev_region tabT [] 700 rfl ?_)
      refine sat_go ?_
      refine sat_fn _ (natDivMod0_ok x.x x.y (by have := x.lx; omega) (by have := x.ly; omega) hy) rfl ?_
      refine sat_go ?_
      refine sat_done (exS_normal ?_)
      refine ev_region tabT [28] 800 rfl ?_
      refine sat_go ?_
      refine sat_fnO _ _ _ (CloneU_ok (lim x.y) (by have := x.ly; omega)) ?_
      refine sat_go ?_
      refine sat_done (exBl_normal ?_)
      exact exL_normal (x.next hy) ⟨⟨Sub.ownSl rfl, Sub.refl _, le_t⟩, le_o, rfl, rfl⟩ (by show x.x % x.y < x.y; exact Nat.mod_lt _ hy)
    · have hy := len_nposL (of_decide_eq_false c5)
      refine ev_exit (exS_exit (exL_exit (exBl_same (exS_normal (ev_R tabT [] 900 ?_)))))
      refine ev_ret ?_
      exact FinV.ret rfl (SubP.tup ⟨SubP.of_eq (by rw [x.fin hy]), SubP.refl _, trivial⟩)
theorem ratAt_ok (c i : Int) : Fn Tryz.prog 128 [.v (.int .i64 c), .v (.int .i64 i)] (faD c i) := by
  refine fn_ev tabT Tryz.func128 rfl rfl rfl rfl rfl rfl ?_
  intro w0 s0 mx
  refine ev_R tabT [] 100 ?_
  refine ev_R tabT [] 200 ?_
  refine ev_ret ?_
  exact FinV.ret rfl (SubP.refl _)
theorem ratValid_ok (n : Int) (d : Nat) (q : Qr.Q n d) : Fn Tryz.prog 155 [.agg (fV n d)] (.v (.bool true)) := by
  have k1 := qOk q
  have k2 := qOk2 q
  have hn := q.nl
  have hd := q.dl
  have hd0 : lim d ≠ [] := fun e => by rw [lim_nil] at e; have := q.d0; omega
  have hg := natGcd_ok n.natAbs d (by omega) (by omega)
  rw [q.co, lim_1] at hg
  refine fn_ev tabT Tryz.func155 rfl rfl rfl rfl rfl rfl ?_
  intro w0 s0 mx
  refine ev_R tabT [] 100 ?_
  refine ev_seq ?_
  refine ev_seq (ev_region tabT [] 200 rfl ?_)
  refine sat_go ?_
  refine sat_fn _ (intValid_ok _ (lim n.natAbs) (by omega)) rfl ?_
  refine sat_go ?_
  refine sat_fnG _ (fun hg7 => intValid_ok _ (lim d) (by omega)) rfl ?_
  refine sat_go ?_
  refine sat_done (exS_normal (ev_if (fun c1 => ?_) (fun c1 => ?_)))
  ·
    simp [k1, k2, hd0] at c1
  ·
    refine ev_skip (exS_normal ?_)
    refine ev_seq (ev_region tabT [] 400 rfl ?_)
    refine sat_go ?_
    refine sat_fn _ (hg) rfl ?_
    refine sat_go ?_
    refine sat_done (exS_normal (ev_R tabT [] 500 ?_))
    refine ev_ret ?_
    exact FinV.ret rfl (SubP.bool (by rfl))
theorem ratCheck_ok (L : List (Int × Nat)) (hv : ∀ k < L.length, Qr.Q (L.getD k (0, 1)).1 (L.getD k (0, 1)).2) (hl : L.length ≤ 100) : Fn Tryz.prog 125 [.sl false 4 L fX (0, 1)] (faD 0 0) := by
  refine fn_ev tabT Tryz.func125 rfl rfl rfl rfl rfl rfl ?_
  intro w0 s0 mx
  refine ev_R tabT [] 100 ?_
  refine ev_seq (ev_R tabT [] 200 ?_)
  refine ev_block ?_
  refine ev_loopK (ι := {k : Nat // k ≤ L.length}) [2, 5, 6] [0] 250 (fun x => [(7, .v (.int .i64 x.1))]) (fun _ => []) (fun x => L.length - x.1) ⟨0, Nat.zero_le _⟩ ?_
  refine ⟨⟨le_t, le_o, rfl, rfl⟩, fun x => ?_⟩
  have hk : x.1 ≤ L.length := x.2
  refine ev_R tabT [] 300 ?_
  refine ev_seq (ev_if (fun c2 => ?_) (fun c2 => ?_))
  ·
    refine ev_skip (exS_normal (ev_seq (ev_block ?_)))
    have hvk := hv x.1 c2
    refine ev_R tabT [] 400 ?_
    refine ev_seq (ev_region tabT [] 500 rfl ?_)
    refine sat_go ?_
    refine sat_fn _ (ratValid_ok _ _ (by simp only [Int.toNat_natCast]; exact hvk)) rfl ?_
    refine sat_go ?_
    refine sat_done (exS_normal (ev_if (fun c4 => ?_) (fun c4 => ?_)))
    ·
      exact absurd c4 (by decide)
    ·
      refine ev_skip (exBl_normal (exS_normal (ev_Q tabT [] 700 ?_)))
      exact exL_normal (⟨x.1 + 1, by omega⟩) ⟨⟨Sub.int (by push_cast; rfl), le_t⟩, le_o, rfl, rfl⟩ (by show L.length - (x.1 + 1) < L.length - x.1; omega)
  ·
    refine ev_exit (exS_exit (exL_exit (exBl_same (exS_normal (ev_R tabT [] 800 ?_)))))
    refine ev_ret ?_
    exact FinV.ret rfl (SubP.refl _)
theorem ratCheck2 {n m : Int} {d e : Nat} (q : Qr.Q n d) (r : Qr.Q m e) : ∀ k < [(n, d), (m, e)].length, Qr.Q ([(n, d), (m, e)].getD k (0, 1)).1 ([(n, d), (m, e)].getD k (0, 1)).2 := by
  intro k hk
  rcases k with _ | _ | k
  · exact q
  · exact r
  · exact absurd hk (by simp)
theorem ratRed_ok (b : Bool) (n d : Nat) (hn : (lim n).length ≤ 300) (hd : (lim d).length ≤ 300) (h0 : 0 < d) : Fn Tryz.prog 127 [.v (.bool b), usD (lim n), usD (lim d)] (redD (ZI b n) d) := by
  have hg0 : 0 < Nat.gcd n d := Nat.gcd_pos_of_pos_right _ h0
  have hgl := gcd_l (n := n) h0 hd
  refine fn_ev tabT Tryz.func127 rfl rfl rfl rfl rfl rfl ?_
  intro w0 s0 mx
  refine ev_R tabT [] 100 ?_
  refine ev_seq (ev_region tabT [] 200 rfl ?_)
  refine sat_go ?_
  refine sat_fn _ (natGcd_ok n d (by omega) (by omega)) rfl ?_
  refine sat_go ?_
  refine sat_done (exS_normal ?_)
  refine ev_seq (ev_region tabT [] 300 rfl ?_)
  refine sat_go ?_
  refine sat_fn _ (natDivMod_ok n (Nat.gcd n d) (by omega) (by omega) hg0) rfl ?_
  refine sat_go ?_
  refine sat_done (exS_normal ?_)
  refine ev_seq (ev_region tabT [] 400 rfl ?_)
  refine sat_go ?_
  refine sat_fn _ (natDivMod_ok d (Nat.gcd n d) (by omega) (by omega) hg0) rfl ?_
  refine sat_go ?_
  refine sat_done (exS_normal (ev_seq (ev_R tabT [] 500 ?_)))
  refine ev_cond rfl (fun c4 => ?_) (fun c4 => ?_)
  · have hf : Qr.fits (ZI b n) d = false := by rw [red_fits]; by_cases h8 : (lim (n / Nat.gcd n d)).length ≤ 128 <;> by_cases h9 : (lim (d / Nat.gcd n d)).length ≤ 128 <;> simp at c4 ⊢ <;> omega
    refine ev_seq (ev_region tabT [] 600 rfl ?_)
    refine sat_go ?_
    refine sat_fn _ (ratAt_ok _ _) rfl ?_
    refine sat_go ?_
    refine sat_done (exS_normal (ev_ret (exS_ret ?_)))
    rw [redN hf]
    exact FinV.ret rfl (SubP.tup ⟨fV_nil, SubP.refl _, trivial⟩)
  · have hf : Qr.fits (ZI b n) d = true := by rw [red_fits]; simp at c4 ⊢; omega
    refine ev_skip (exS_normal (ev_R tabT [] 700 ?_))
    refine ev_ret ?_
    rw [redY hf]
    exact FinV.ret rfl (SubP.refl _)
theorem ratPlus_n (s t r : Bool) (a b c d : Nat) (ha : (lim a).length ≤ 128) (hb : (lim b).length ≤ 128) (hc : (lim c).length ≤ 128) (hd : (lim d).length ≤ 128) (b0 : 0 < b) (d0 : 0 < d) : Fn Tryz.prog 126 [.agg [.v (.bool s), usD (lim a), .v (.bool false), usD (lim b)], .agg [.v (.bool t), usD (lim c), .v (.bool false), usD (lim d)], .v (.bool r)] (redD (ZI (plSg s (a * d) (t != r) (c * b)) (plN s (a * d) (t != r) (c * b))) (b * d)) := by
  have hcm := cmpN_neg (a * d) (c * b)
  have hx : (lim (a * d)).length ≤ 256 := lim_mulL ha hd
  have hy : (lim (c * b)).length ≤ 256 := lim_mulL hc hb
  have hz : (lim (b * d)).length ≤ 256 := lim_mulL hb hd
  have hxy : (lim (a * d + c * b)).length ≤ 257 := lim_add_le hx hy
  have hp : 0 < b * d := Nat.mul_pos b0 d0
  have hs1 : (lim (a * d - c * b)).length ≤ 256 := Nat.le_trans (lim_len_mono (Nat.sub_le _ _)) hx
  have hs2 : (lim (c * b - a * d)).length ≤ 256 := Nat.le_trans (lim_len_mono (Nat.sub_le _ _)) hy
  refine fn_ev tabT Tryz.func126 rfl rfl rfl rfl rfl rfl ?_
  intro w0 s0 mx
  refine ev_R tabT [] 100 ?_
  refine ev_seq (ev_region tabT [] 200 rfl ?_)
  refine sat_go ?_
  refine sat_fn _ (natMul_ok a d (by omega) (by omega) (by omega)) rfl ?_
  refine sat_go ?_
  refine sat_done (exS_normal ?_)
  refine ev_seq (ev_region tabT [] 300 rfl ?_)
  refine sat_go ?_
  refine sat_fn _ (natMul_ok c b (by omega) (by omega) (by omega)) rfl ?_
  refine sat_go ?_
  refine sat_done (exS_normal ?_)
  refine ev_seq (ev_region tabT [] 400 rfl ?_)
  refine sat_go ?_
  refine sat_fn _ (natMul_ok b d (by omega) (by omega) (by omega)) rfl ?_
  refine sat_go ?_
  refine sat_done (exS_normal ?_)
  refine ev_seq (ev_drawn tabT [] [[], [0], [0, 1], [], [3], [3, 4], [], [3, 4, 5, 6], [0, 1, 2], [0, 1, 2, 3, 4, 5, 6, 7, 8]] 500 mixT (by kernel_rfl) rfl ?_)
  refine sat_go ?_
  refine sat_done (exS_normal (ev_seq (ev_R tabT [] 600 ?_)))
  refine ev_if (fun c5 => ?_) (fun c5 => ?_)
  ·
    refine ev_seq (ev_region tabT [] 700 rfl ?_)
    refine sat_go ?_
    refine sat_fn _ (natAdd_ok _ _ (by omega) (by omega) (by omega)) rfl ?_
    refine sat_go ?_
    refine sat_done (exS_normal ?_)
    refine ev_seq (ev_region tabT [] 800 rfl ?_)
    refine sat_go ?_
    refine sat_fn _ (ratRed_ok _ _ _ (by omega) (by omega) hp) rfl ?_
    refine sat_go ?_
    refine sat_done (exS_normal (ev_ret (exS_ret ?_)))
    have hst : s = (t != r) := by simpa using c5
    exact FinV.ret rfl (SubP.of_eq (by rw [plSg, plN, if_pos hst, if_pos hst]; rfl))
  ·
    refine ev_skip (exS_normal (ev_seq ?_))
    refine ev_seq (ev_region tabT [] 900 rfl ?_)
    refine sat_go ?_
    refine sat_fn _ (natCmp_ok _ _ (by omega) (by omega)) rfl ?_
    refine sat_go ?_
    refine sat_done (exS_normal (ev_R tabT [] 1000 ?_))
    refine ev_if (fun c9 => ?_) (fun c9 => ?_)
    ·
      refine ev_Q tabT [] 1100 ?_
      refine exS_normal ?_
      refine ev_seq (ev_region tabT [] 1200 rfl ?_)
      refine sat_go ?_
      refine sat_fn _ (natSub_ok _ _ (by omega) (by omega) (by omega)) rfl ?_
      refine sat_go ?_
      refine sat_done (exS_normal ?_)
      refine ev_seq (ev_region tabT [] 1300 rfl ?_)
      refine sat_go ?_
      refine sat_fn _ (ratRed_ok _ _ _ (by omega) (by omega) hp) rfl ?_
      refine sat_go ?_
      refine sat_done (exS_normal (ev_ret ?_))
      have hst : ¬ s = (t != r) := by simpa using c5
      by_cases h9 : a * d < c * b
      · first | (exact absurd h9 (by omega)) | exact FinV.ret rfl (SubP.of_eq (by rw [plSg, plN, if_neg hst, if_neg hst, if_pos h9, if_pos h9]; rfl))
      · first | (exact absurd h9 (by omega)) | exact FinV.ret rfl (SubP.of_eq (by rw [plSg, plN, if_neg hst, if_neg hst, if_neg h9, if_neg h9]; rfl))
    ·
      refine ev_skip (exS_normal ?_)
      refine ev_seq (ev_region tabT [] 1200 rfl ?_)
      refine sat_go ?_
      refine sat_fn _ (natSub_ok _ _ (by omega) (by omega) (by omega)) rfl ?_
      refine sat_go ?_
      refine sat_done (exS_normal ?_)
      refine ev_seq (ev_region tabT [] 1300 rfl ?_)
      refine sat_go ?_
      refine sat_fn _ (ratRed_ok _ _ _ (by omega) (by omega) hp) rfl ?_
      refine sat_go ?_
      refine sat_done (exS_normal (ev_ret ?_))
      have hst : ¬ s = (t != r) := by simpa using c5
      by_cases h9 : a * d < c * b
      · first | (exact absurd h9 (by omega)) | exact FinV.ret rfl (SubP.of_eq (by rw [plSg, plN, if_neg hst, if_neg hst, if_pos h9, if_pos h9]; rfl))
      · first | (exact absurd h9 (by omega)) | exact FinV.ret rfl (SubP.of_eq (by rw [plSg, plN, if_neg hst, if_neg hst, if_neg h9, if_neg h9]; rfl))
theorem ZI_mulN (s : Bool) (a d : Nat) : ZI s (a * d) = ZI s a * d := by
  unfold ZI
  split
  · rw [Int.natCast_mul, Int.neg_mul]
  · rw [Int.natCast_mul]
theorem plus_eq (n m : Int) (d e : Nat) (r : Bool) : ZI (plSg (decide (n < 0)) (n.natAbs * e) (decide (m < 0) != r) (m.natAbs * d)) (plN (decide (n < 0)) (n.natAbs * e) (decide (m < 0) != r) (m.natAbs * d)) = n * e + (if r = true then -m else m) * d := by
  rw [plZ, ZI_mulN, ZI_mulN, ZI_of]
  cases r
  · rw [Bool.bne_false, ZI_of, if_neg (by decide)]
  · rw [Bool.bne_true, ZI_not, if_pos rfl]
theorem ratPlus_ok {n m : Int} {d e : Nat} (r : Bool) (p : Qr.Q n d) (q : Qr.Q m e) : Fn Tryz.prog 126 [.agg (fV n d), .agg (fV m e), .v (.bool r)] (redD (n * e + (if r = true then -m else m) * d) (d * e)) := by
  have h := ratPlus_n (decide (n < 0)) (decide (m < 0)) r n.natAbs d m.natAbs e p.nl p.dl q.nl q.dl p.d0 q.d0
  rw [plus_eq] at h
  exact h
theorem mul_Z (n m : Int) : ZI (decide (n < 0) != decide (m < 0)) (n.natAbs * m.natAbs) = n * m := by
  have h1 := ZI_of n
  have h2 := ZI_of m
  generalize n.natAbs = a at *
  generalize m.natAbs = b at *
  generalize decide (n < 0) = s at *
  generalize decide (m < 0) = t at *
  subst h1
  subst h2
  cases s <;> cases t <;> unfold ZI <;> simp <;> grind
theorem ratAdd_ok {n m : Int} {d e : Nat} (p : Qr.Q n d) (q : Qr.Q m e) : Fn Tryz.prog 87 [.agg (fV n d), .agg (fV m e)] (redD (n * e + m * d) (d * e)) := by
  refine fn_ev tabT Tryz.func87 rfl rfl rfl rfl rfl rfl ?_
  intro w0 s0 mx
  refine ev_R tabT [] 100 ?_
  refine ev_seq ?_
  refine ev_seq (ev_region tabT [] 200 rfl ?_)
  refine sat_go ?_
  refine sat_fn _ ((ratCheck_ok [(n, d), (m, e)] (ratCheck2 p q) (by show 2 ≤ 100; omega)).args ⟨SubP.slrSl rfl, trivial⟩) rfl ?_
  refine sat_go ?_
  refine sat_done (exS_normal (ev_R tabT [] 300 ?_))
  refine ev_if (fun c2 => ?_) (fun c2 => ?_)
  ·
    exact absurd c2 (by decide)
  ·
    refine ev_skip (exS_normal ?_)
    refine ev_seq (ev_region tabT [] 500 rfl ?_)
    refine sat_go ?_
    refine sat_fn _ (ratPlus_ok false p q) rfl ?_
    refine sat_go ?_
    refine sat_done (exS_normal (ev_ret ?_))
    exact FinV.ret rfl (SubP.refl _)
theorem ratSub_ok {n m : Int} {d e : Nat} (p : Qr.Q n d) (q : Qr.Q m e) : Fn Tryz.prog 88 [.agg (fV n d), .agg (fV m e)] (redD (n * e - m * d) (d * e)) := by
  have hp := ratPlus_ok true p q
  rw [if_pos rfl, Int.neg_mul, ← Int.sub_eq_add_neg] at hp
  refine fn_ev tabT Tryz.func88 rfl rfl rfl rfl rfl rfl ?_
  intro w0 s0 mx
  refine ev_R tabT [] 100 ?_
  refine ev_seq ?_
  refine ev_seq (ev_region tabT [] 200 rfl ?_)
  refine sat_go ?_
  refine sat_fn _ ((ratCheck_ok [(n, d), (m, e)] (ratCheck2 p q) (by show 2 ≤ 100; omega)).args ⟨SubP.slrSl rfl, trivial⟩) rfl ?_
  refine sat_go ?_
  refine sat_done (exS_normal (ev_R tabT [] 300 ?_))
  refine ev_if (fun c2 => ?_) (fun c2 => ?_)
  ·
    exact absurd c2 (by decide)
  ·
    refine ev_skip (exS_normal ?_)
    refine ev_seq (ev_region tabT [] 500 rfl ?_)
    refine sat_go ?_
    refine sat_fn _ (hp) rfl ?_
    refine sat_go ?_
    refine sat_done (exS_normal (ev_ret ?_))
    exact FinV.ret rfl (SubP.refl _)
theorem ratMul_ok {n m : Int} {d e : Nat} (p : Qr.Q n d) (q : Qr.Q m e) : Fn Tryz.prog 89 [.agg (fV n d), .agg (fV m e)] (redD (n * m) (d * e)) := by
  have hn := p.nl
  have hd := p.dl
  have hm := q.nl
  have he := q.dl
  have hnm : (lim (n.natAbs * m.natAbs)).length ≤ 256 := lim_mulL hn hm
  have hde : (lim (d * e)).length ≤ 256 := lim_mulL hd he
  have hp0 : 0 < d * e := Nat.mul_pos p.d0 q.d0
  have hne : (lim (n.natAbs * e)).length ≤ 256 := lim_mulL hn he
  have hdm : (lim (d * m.natAbs)).length ≤ 256 := lim_mulL hd hm
  have hr := ratRed_ok (decide (n < 0) != decide (m < 0)) (n.natAbs * m.natAbs) (d * e) (by omega) (by omega) hp0
  rw [mul_Z] at hr
  refine fn_ev tabT Tryz.func89 rfl rfl rfl rfl rfl rfl ?_
  intro w0 s0 mx
  refine ev_R tabT [] 100 ?_
  refine ev_seq ?_
  refine ev_seq (ev_region tabT [] 200 rfl ?_)
  refine sat_go ?_
  refine sat_fn _ ((ratCheck_ok [(n, d), (m, e)] (ratCheck2 p q) (by show 2 ≤ 100; omega)).args ⟨SubP.slrSl rfl, trivial⟩) rfl ?_
  refine sat_go ?_
  refine sat_done (exS_normal (ev_R tabT [] 300 ?_))
  refine ev_if (fun c2 => ?_) (fun c2 => ?_)
  ·
    exact absurd c2 (by decide)
  ·
    refine ev_skip (exS_normal ?_)
    refine ev_seq (ev_region tabT [] 500 rfl ?_)
    refine sat_go ?_
    refine sat_fn _ (natMul_ok n.natAbs m.natAbs (by omega) (by omega) (by omega)) rfl ?_
    refine sat_go ?_
    refine sat_done (exS_normal ?_)
    refine ev_seq (ev_region tabT [] 600 rfl ?_)
    refine sat_go ?_
    refine sat_fn _ (natMul_ok d e (by omega) (by omega) (by omega)) rfl ?_
    refine sat_go ?_
    refine sat_done (exS_normal ?_)
    refine ev_seq (ev_region tabT [] 700 rfl ?_)
    refine sat_go ?_
    refine sat_fn _ (hr) rfl ?_
    refine sat_go ?_
    refine sat_done (exS_normal (ev_ret ?_))
    exact FinV.ret rfl (SubP.refl _)
def dvZ (n m : Int) (e : Nat) : Int := ZI (decide (n < 0) != decide (m < 0)) (n * e).natAbs
def dvN (n m : Int) (d e : Nat) : Int := if m = 0 then 0 else frN (dvZ n m e) (d * m.natAbs)
def dvE (n m : Int) (d e : Nat) : Nat := if m = 0 then 0 else frE (dvZ n m e) (d * m.natAbs)
def dvC (n m : Int) (d e : Nat) : Int := if m = 0 then 22 else frC (dvZ n m e) (d * m.natAbs)
def dvI (n m : Int) (d e : Nat) : Int := if m = 0 then -2 else frI (dvZ n m e) (d * m.natAbs)
theorem dv_0 (n : Int) (d e : Nat) : frD (dvN n 0 d e) (dvE n 0 d e) (dvC n 0 d e) (dvI n 0 d e) = frD 0 0 22 (-2) := rfl
theorem dv_1 {n m : Int} {d e : Nat} (h : ¬ m = 0) : frD (dvN n m d e) (dvE n m d e) (dvC n m d e) (dvI n m d e) = redD (ZI (decide (n < 0) != decide (m < 0)) (n.natAbs * e)) (d * m.natAbs) := by
  unfold dvN dvE dvC dvI dvZ redD
  rw [if_neg h, if_neg h, if_neg h, if_neg h, Int.natAbs_mul, Int.natAbs_natCast]
theorem q_len0 {m : Int} (h : ((lim m.natAbs).length : Int) = 0) : m = 0 := by
  have := len_nposL (n := m.natAbs) (by omega)
  omega
theorem q_len1 {m : Int} (h : ¬ ((lim m.natAbs).length : Int) = 0) : ¬ m = 0 := fun e => by
  subst e
  rw [show (0 : Int).natAbs = 0 from rfl, lim_zero] at h
  exact h rfl
theorem ratDiv_ok {n m : Int} {d e : Nat} (p : Qr.Q n d) (q : Qr.Q m e) : Fn Tryz.prog 90 [.agg (fV n d), .agg (fV m e)] (frD (dvN n m d e) (dvE n m d e) (dvC n m d e) (dvI n m d e)) := by
  have hn := p.nl
  have hd := p.dl
  have hm := q.nl
  have he := q.dl
  have hnm : (lim (n.natAbs * m.natAbs)).length ≤ 256 := lim_mulL hn hm
  have hde : (lim (d * e)).length ≤ 256 := lim_mulL hd he
  have hp0 : 0 < d * e := Nat.mul_pos p.d0 q.d0
  have hne : (lim (n.natAbs * e)).length ≤ 256 := lim_mulL hn he
  have hdm : (lim (d * m.natAbs)).length ≤ 256 := lim_mulL hd hm
  refine fn_ev tabT Tryz.func90 rfl rfl rfl rfl rfl rfl ?_
  intro w0 s0 mx
  refine ev_R tabT [] 100 ?_
  refine ev_seq ?_
  refine ev_seq (ev_region tabT [] 200 rfl ?_)
  refine sat_go ?_
  refine sat_fn _ ((ratCheck_ok [(n, d), (m, e)] (ratCheck2 p q) (by show 2 ≤ 100; omega)).args ⟨SubP.slrSl rfl, trivial⟩) rfl ?_
  refine sat_go ?_
  refine sat_done (exS_normal (ev_R tabT [] 300 ?_))
  refine ev_if (fun c2 => ?_) (fun c2 => ?_)
  ·
    exact absurd c2 (by decide)
  ·
    refine ev_skip (exS_normal (ev_seq (ev_R tabT [] 500 ?_)))
    refine ev_cond rfl (fun c4 => ?_) (fun c4 => ?_)
    · have hm0 := q_len0 (of_decide_eq_true c4)
      refine ev_seq (ev_region tabT [] 600 rfl ?_)
      refine sat_go ?_
      refine sat_fn _ (ratAt_ok 22 (-2)) rfl ?_
      refine sat_go ?_
      refine sat_done (exS_normal (ev_ret (exS_ret ?_)))
      subst hm0
      rw [dv_0]
      exact FinV.ret rfl (SubP.tup ⟨fV_nil, SubP.refl _, trivial⟩)
    · have hm0 := q_len1 (of_decide_eq_false c4)
      refine ev_skip (exS_normal ?_)
      refine ev_seq (ev_region tabT [] 700 rfl ?_)
      refine sat_go ?_
      refine sat_fn _ (natMul_ok n.natAbs e (by omega) (by omega) (by omega)) rfl ?_
      refine sat_go ?_
      refine sat_done (exS_normal ?_)
      refine ev_seq (ev_region tabT [] 800 rfl ?_)
      refine sat_go ?_
      refine sat_fn _ (natMul_ok d m.natAbs (by omega) (by omega) (by omega)) rfl ?_
      refine sat_go ?_
      refine sat_done (exS_normal ?_)
      refine ev_seq (ev_region tabT [] 900 rfl ?_)
      refine sat_go ?_
      refine sat_fn _ (ratRed_ok (decide (n < 0) != decide (m < 0)) (n.natAbs * e) (d * m.natAbs) (by omega) (by omega) (Nat.mul_pos p.d0 (by omega))) rfl ?_
      refine sat_go ?_
      refine sat_done (exS_normal (ev_ret ?_))
      rw [dv_1 hm0]
      exact FinV.ret rfl (SubP.refl _)
end Go.Proofs.YtnkjenaanjnihaaGreatDoor


/- Walks by the evaluator: operators of numbers: ratio, number, signed, divide, numbers. -/
namespace Go.Proofs.YtnkjenaanjnihaaGreatDoor
open Go.RowKit
variable {md me : Bool}
theorem nm_n {v : Vl} (p : Qr.Nm v) : v.nn = decide (Qr.nV v < 0) ∧ v.nl = lim (Qr.nV v).natAbs := by
  refine ⟨(congrArg Vl.nn p.e).trans ?_, (congrArg Vl.nl p.e).trans ?_⟩
  · unfold Qr.vQ; split <;> rfl
  · unfold Qr.vQ; split <;> rfl
theorem nm_d3 {v : Vl} (p : Qr.Nm v) (h : v.k = 3) : v.dn = false ∧ v.dl = lim (Qr.dV v) := by
  have h1 : ¬ Qr.dV v = 1 := fun h1 => by
    have hk := congrArg Vl.k p.e
    unfold Qr.vQ at hk
    rw [if_pos h1] at hk
    have hk : v.k = 2 := hk
    omega
  refine ⟨(congrArg Vl.dn p.e).trans ?_, (congrArg Vl.dl p.e).trans ?_⟩
  · unfold Qr.vQ; rw [if_neg h1]
  · unfold Qr.vQ; rw [if_neg h1]
theorem nm_d2 {v : Vl} (p : Qr.Nm v) (h : v.k = 2) : Qr.dV v = 1 := by
  unfold Qr.dV
  rw [if_neg (by omega)]
theorem nm_f2 {v : Vl} (p : Qr.Nm v) (h : v.k = 2) : fV (Qr.nV v) (Qr.dV v) = [.v (.bool v.nn), usD v.nl, .v (.bool false), usD [1]] := by
  unfold fV
  rw [← (nm_n p).1, ← (nm_n p).2, nm_d2 p h, lim_1]
theorem nm_f3 {v : Vl} (p : Qr.Nm v) (h : v.k = 3) : fV (Qr.nV v) (Qr.dV v) = [.v (.bool v.nn), usD v.nl, .v (.bool v.dn), usD v.dl] := by
  unfold fV
  rw [← (nm_n p).1, ← (nm_n p).2, (nm_d3 p h).1, (nm_d3 p h).2]
def nbS (n : Int) (d : Nat) (c : Int) : St := if c = 0 then vlS (Qr.vQ n d) else flS c
theorem lim_is1 {d : Nat} : lim d = [1] ↔ d = 1 := by
  constructor
  · intro h
    have h1 := L_dig d
    rw [h, L_cons, L_nil] at h1
    omega
  · intro h
    rw [h, lim_1]
theorem opQ_yes {z : Int} {d : Nat} (h : Qr.fits z d = true) : Qr.opQ z d = vlS (Qr.vQ (Qr.rN z d) (Qr.rD z d)) := if_pos h
theorem opQ_no {z : Int} {d : Nat} (h : Qr.fits z d = false) : Qr.opQ z d = raS 42 tooB := if_neg (by rw [h]; decide)
theorem nb_red (z : Int) (d : Nat) : nbS (frN z d) (frE z d) (frC z d) = Qr.opQ z d := by
  unfold nbS frN frE frC
  by_cases h : Qr.fits z d = true
  · rw [if_pos h, if_pos h, if_pos h, if_pos rfl, opQ_yes h]
  · rw [if_neg h, if_neg h, if_neg h, opQ_no (by simpa using h)]; rfl
theorem nb_dv (a b : Vl) : nbS (dvN (Qr.nV a) (Qr.nV b) (Qr.dV a) (Qr.dV b)) (dvE (Qr.nV a) (Qr.nV b) (Qr.dV a) (Qr.dV b)) (dvC (Qr.nV a) (Qr.nV b) (Qr.dV a) (Qr.dV b)) = Qr.divS a b := by
  unfold dvN dvE dvC Qr.divS
  by_cases h : Qr.nV b = 0
  · rw [if_pos h, if_pos h, if_pos h, if_pos h]; rfl
  · rw [if_neg h, if_neg h, if_neg h, if_neg h, nb_red]; rfl
theorem opOne_ok  : Fn Tryz.prog 111 [] (.agg [.v (.bool false), usD [1]]) := by
  refine fn_ev tabT Tryz.func111 rfl rfl rfl rfl rfl rfl ?_
  intro w0 s0 mx
  refine ev_R tabT [] 100 ?_
  refine ev_R tabT [] 200 ?_
  refine ev_ret ?_
  exact FinV.ret rfl (SubP.agg ⟨SubP.refl _, SubP.slrSl rfl, trivial⟩)
theorem opRatio_ok (v : Vl) (p : Qr.Nm v) : Fn Tryz.prog 83 [.agg (vlD v)] (.tup [.agg (fV (Qr.nV v) (Qr.dV v)), .v (.bool true)]) := by
  refine fn_ev tabT Tryz.func83 rfl rfl rfl rfl rfl rfl ?_
  intro w0 s0 mx
  refine ev_R tabT [] 100 ?_
  refine ev_seq (ev_R tabT [] 200 ?_)
  refine ev_block (ev_R tabT [] 300 ?_)
  refine ev_if (fun c2 => ?_) (fun c2 => ?_)
  ·
    refine ev_seq (ev_drawn tabT [] [[], [0], [], [0, 1, 2], [0, 1, 2, 3], [0, 1, 2, 3, 4]] 400 mixT (by kernel_rfl) rfl ?_)
    refine sat_go ?_
    refine sat_fn _ (opOne_ok) rfl ?_
    refine sat_go ?_
    refine sat_done (exS_normal (ev_ret (exBl_ret (exS_ret ?_))))
    exact FinV.ret rfl (SubP.tup ⟨SubP.of_eq (by rw [nm_f2 p c2]; rfl), SubP.refl _, trivial⟩)
  ·
    refine ev_R tabT [] 500 ?_
    refine ev_if (fun c4 => ?_) (fun c4 => ?_)
    ·
      refine ev_R tabT [] 600 ?_
      refine ev_ret (exBl_ret (exS_ret ?_))
      exact FinV.ret rfl (SubP.tup ⟨SubP.of_eq (by rw [nm_f3 p c4]; rfl), SubP.refl _, trivial⟩)
    ·
      exact absurd p.k (by omega)
theorem opRatio0_ok  : Fn Tryz.prog 83 [.agg (vlD vl0)] (.tup [.agg (fV 0 0), .v (.bool false)]) := by
  refine fn_ev tabT Tryz.func83 rfl rfl rfl rfl rfl rfl ?_
  intro w0 s0 mx
  refine ev_R tabT [] 100 ?_
  refine ev_seq (ev_R tabT [] 200 ?_)
  refine ev_block (ev_R tabT [] 300 ?_)
  refine ev_if (fun c2 => ?_) (fun c2 => ?_)
  ·
    exact absurd c2 (by decide)
  ·
    refine ev_R tabT [] 500 ?_
    refine ev_if (fun c4 => ?_) (fun c4 => ?_)
    ·
      exact absurd c4 (by decide)
    ·
      refine ev_skip (exBl_normal (exS_normal (ev_R tabT [] 700 ?_)))
      refine ev_ret ?_
      exact FinV.ret rfl (SubP.tup ⟨fV_nil, SubP.refl _, trivial⟩)
theorem opNumber_ok (n : Int) (d : Nat) (c i : Int) : Fn Tryz.prog 91 [.agg (fV n d), faD c i] (.agg (stD (nbS n d c))) := by
  refine fn_ev tabT Tryz.func91 rfl rfl rfl rfl rfl rfl ?_
  intro w0 s0 mx
  refine ev_R tabT [] 100 ?_
  refine ev_seq ?_
  refine ev_seq (ev_region tabT [] 200 rfl ?_)
  refine sat_go ?_
  refine sat_fn _ (opFailed_ok c i) rfl ?_
  refine sat_go ?_
  refine sat_done (exS_normal (ev_R tabT [] 300 ?_))
  refine ev_if (fun c2 => ?_) (fun c2 => ?_)
  ·
    refine ev_R tabT [] 400 ?_
    refine ev_ret (exS_ret ?_)
    exact FinV.ret rfl (SubP.of_eq (by rw [nbS, if_neg (by simpa using c2)]; rfl))
  ·
    refine ev_skip (exS_normal (ev_seq ?_))
    refine ev_seq (ev_drawn tabT [] [[], [0], [0, 1], [], [3], [0, 1, 2, 3, 4]] 500 mixT (by kernel_rfl) rfl ?_)
    refine sat_go ?_
    refine sat_fn _ (opOne_ok) rfl ?_
    refine sat_go ?_
    refine sat_fn _ (EqualU_ok (lim d) [1]) rfl ?_
    refine sat_go ?_
    refine sat_done (exS_normal (ev_if (fun c4 => ?_) (fun c4 => ?_)))
    ·
      refine ev_seq (ev_region tabT [] 600 rfl ?_)
      refine sat_go ?_
      refine sat_fn _ ((opValue_ok (nuV n)).args ⟨SubP.agg (by repeat (first | exact trivial | exact SubP.refl _ | exact SubP.nilSl rfl | refine ⟨?_, ?_⟩)), trivial⟩) rfl ?_
      refine sat_go ?_
      refine sat_done (exS_normal (ev_ret (exS_ret ?_)))
      exact FinV.ret rfl (SubP.of_eq (by rw [nbS, if_pos (by simpa using c2), Qr.vQ, if_pos (by rw [← lim_is1]; simpa using c4)]; rfl))
    ·
      refine ev_skip (exS_normal ?_)
      refine ev_seq (ev_region tabT [] 700 rfl ?_)
      refine sat_go ?_
      refine sat_fn _ ((opValue_ok ⟨3, decide (n < 0), lim n.natAbs, false, lim d, ByteArray.empty, 0⟩).args ⟨SubP.agg (by repeat (first | exact trivial | exact SubP.refl _ | exact SubP.nilSl rfl | refine ⟨?_, ?_⟩)), trivial⟩) rfl ?_
      refine sat_go ?_
      refine sat_done (exS_normal (ev_ret ?_))
      exact FinV.ret rfl (SubP.of_eq (by rw [nbS, if_pos (by simpa using c2), Qr.vQ, if_neg (by rw [← lim_is1]; simpa using c4)]; rfl))
theorem opNum5_ok (a b : Vl) (p : Qr.Nm a) (q : Qr.Nm b) : Fn Tryz.prog 66 [.v (.int .i64 5), .agg (vlD a), .agg (vlD b)] (.tup [.agg (stD (Qr.addS a b)), .v (.bool true)]) := by
  refine fn_ev tabT Tryz.func66 rfl rfl rfl rfl rfl rfl ?_
  intro w0 s0 mx
  refine ev_R tabT [] 100 ?_
  refine ev_seq (ev_region tabT [] 200 rfl ?_)
  refine sat_go ?_
  refine sat_fn _ (opRatio_ok a p) rfl ?_
  refine sat_go ?_
  refine sat_done (exS_normal ?_)
  refine ev_seq (ev_region tabT [] 300 rfl ?_)
  refine sat_go ?_
  refine sat_fn _ (opRatio_ok b q) rfl ?_
  refine sat_go ?_
  refine sat_done (exS_normal (ev_seq (ev_R tabT [] 400 ?_)))
  refine ev_if (fun c3 => ?_) (fun c3 => ?_)
  ·
    exact absurd c3 (by decide)
  ·
    refine ev_skip (exS_normal (ev_R tabT [] 600 ?_))
    refine ev_seq (ev_R tabT [] 700 ?_)
    refine ev_block (ev_R tabT [] 800 ?_)
    refine ev_if (fun c7 => ?_) (fun c7 => ?_)
    ·
      exact absurd c7 (by decide)
    ·
      refine ev_seq (ev_R tabT [] 1200 ?_)
      refine ev_if (fun c11 => ?_) (fun c11 => ?_)
      ·
        exact absurd c11 (by decide)
      ·
        refine ev_Q tabT [] 1300 ?_
        refine exS_normal (ev_if (fun c12 => ?_) (fun c12 => ?_))
        ·
          exact absurd c12 (by decide)
        ·
          refine ev_seq (ev_R tabT [] 1500 ?_)
          refine ev_if (fun c14 => ?_) (fun c14 => ?_)
          ·
            exact absurd c14 (by decide)
          ·
            refine ev_R tabT [] 1600 ?_
            refine ev_if (fun c15 => ?_) (fun c15 => ?_)
            ·
              exact absurd c15 (by decide)
            ·
              refine ev_R tabT [] 1700 ?_
              refine ev_if (fun c16 => ?_) (fun c16 => ?_)
              ·
                exact absurd c16 (by decide)
              ·
                refine ev_R tabT [] 1800 ?_
                refine ev_if (fun c17 => ?_) (fun c17 => ?_)
                ·
                  exact absurd c17 (by decide)
                ·
                  refine ev_Q tabT [] 1900 ?_
                  refine exS_normal (ev_if (fun c18 => ?_) (fun c18 => ?_))
                  ·
                    exact absurd c18 (by decide)
                  ·
                    refine ev_skip (exBl_normal (exS_normal ?_))
                    refine ev_seq (ev_region tabT [] 2300 rfl ?_)
                    refine sat_go ?_
                    refine sat_pick [.clo 87 [], .v (.bool true)] ⟨SubP.fn0, rfl⟩ ?_
                    refine sat_go ?_
                    refine sat_done (exS_normal ?_)
                    refine ev_seq (ev_region tabT [] 2400 rfl ?_)
                    refine sat_go ?_
                    refine sat_fn _ (ratAdd_ok p.q q.q) rfl ?_
                    refine sat_go ?_
                    refine sat_fn _ (opNumber_ok _ _ _ _) rfl ?_
                    refine sat_go ?_
                    refine sat_done (exS_normal (ev_ret ?_))
                    exact FinV.ret rfl (SubP.of_eq (by rw [nb_red]; rfl))
theorem opNum6_ok (a b : Vl) (p : Qr.Nm a) (q : Qr.Nm b) : Fn Tryz.prog 66 [.v (.int .i64 6), .agg (vlD a), .agg (vlD b)] (.tup [.agg (stD (Qr.subS a b)), .v (.bool true)]) := by
  refine fn_ev tabT Tryz.func66 rfl rfl rfl rfl rfl rfl ?_
  intro w0 s0 mx
  refine ev_R tabT [] 100 ?_
  refine ev_seq (ev_region tabT [] 200 rfl ?_)
  refine sat_go ?_
  refine sat_fn _ (opRatio_ok a p) rfl ?_
  refine sat_go ?_
  refine sat_done (exS_normal ?_)
  refine ev_seq (ev_region tabT [] 300 rfl ?_)
  refine sat_go ?_
  refine sat_fn _ (opRatio_ok b q) rfl ?_
  refine sat_go ?_
  refine sat_done (exS_normal (ev_seq (ev_R tabT [] 400 ?_)))
  refine ev_if (fun c3 => ?_) (fun c3 => ?_)
  ·
    exact absurd c3 (by decide)
  ·
    refine ev_skip (exS_normal (ev_R tabT [] 600 ?_))
    refine ev_seq (ev_R tabT [] 700 ?_)
    refine ev_block (ev_R tabT [] 800 ?_)
    refine ev_if (fun c7 => ?_) (fun c7 => ?_)
    ·
      exact absurd c7 (by decide)
    ·
      refine ev_seq (ev_R tabT [] 1200 ?_)
      refine ev_if (fun c11 => ?_) (fun c11 => ?_)
      ·
        exact absurd c11 (by decide)
      ·
        refine ev_Q tabT [] 1300 ?_
        refine exS_normal (ev_if (fun c12 => ?_) (fun c12 => ?_))
        ·
          exact absurd c12 (by decide)
        ·
          refine ev_seq (ev_R tabT [] 1500 ?_)
          refine ev_if (fun c14 => ?_) (fun c14 => ?_)
          ·
            exact absurd c14 (by decide)
          ·
            refine ev_R tabT [] 1600 ?_
            refine ev_if (fun c15 => ?_) (fun c15 => ?_)
            ·
              exact absurd c15 (by decide)
            ·
              refine ev_R tabT [] 1700 ?_
              refine ev_if (fun c16 => ?_) (fun c16 => ?_)
              ·
                exact absurd c16 (by decide)
              ·
                refine ev_R tabT [] 1800 ?_
                refine ev_if (fun c17 => ?_) (fun c17 => ?_)
                ·
                  exact absurd c17 (by decide)
                ·
                  refine ev_Q tabT [] 1900 ?_
                  refine exS_normal (ev_if (fun c18 => ?_) (fun c18 => ?_))
                  ·
                    exact absurd c18 (by decide)
                  ·
                    refine ev_skip (exBl_normal (exS_normal ?_))
                    refine ev_seq (ev_region tabT [] 2300 rfl ?_)
                    refine sat_go ?_
                    refine sat_pick [.clo 88 [], .v (.bool true)] ⟨SubP.fn0, rfl⟩ ?_
                    refine sat_go ?_
                    refine sat_done (exS_normal ?_)
                    refine ev_seq (ev_region tabT [] 2400 rfl ?_)
                    refine sat_go ?_
                    refine sat_fn _ (ratSub_ok p.q q.q) rfl ?_
                    refine sat_go ?_
                    refine sat_fn _ (opNumber_ok _ _ _ _) rfl ?_
                    refine sat_go ?_
                    refine sat_done (exS_normal (ev_ret ?_))
                    exact FinV.ret rfl (SubP.of_eq (by rw [nb_red]; rfl))
theorem opNum7_ok (a b : Vl) (p : Qr.Nm a) (q : Qr.Nm b) : Fn Tryz.prog 66 [.v (.int .i64 7), .agg (vlD a), .agg (vlD b)] (.tup [.agg (stD (Qr.mulS a b)), .v (.bool true)]) := by
  refine fn_ev tabT Tryz.func66 rfl rfl rfl rfl rfl rfl ?_
  intro w0 s0 mx
  refine ev_R tabT [] 100 ?_
  refine ev_seq (ev_region tabT [] 200 rfl ?_)
  refine sat_go ?_
  refine sat_fn _ (opRatio_ok a p) rfl ?_
  refine sat_go ?_
  refine sat_done (exS_normal ?_)
  refine ev_seq (ev_region tabT [] 300 rfl ?_)
  refine sat_go ?_
  refine sat_fn _ (opRatio_ok b q) rfl ?_
  refine sat_go ?_
  refine sat_done (exS_normal (ev_seq (ev_R tabT [] 400 ?_)))
  refine ev_if (fun c3 => ?_) (fun c3 => ?_)
  ·
    exact absurd c3 (by decide)
  ·
    refine ev_skip (exS_normal (ev_R tabT [] 600 ?_))
    refine ev_seq (ev_R tabT [] 700 ?_)
    refine ev_block (ev_R tabT [] 800 ?_)
    refine ev_if (fun c7 => ?_) (fun c7 => ?_)
    ·
      exact absurd c7 (by decide)
    ·
      refine ev_seq (ev_R tabT [] 1200 ?_)
      refine ev_if (fun c11 => ?_) (fun c11 => ?_)
      ·
        exact absurd c11 (by decide)
      ·
        refine ev_Q tabT [] 1300 ?_
        refine exS_normal (ev_if (fun c12 => ?_) (fun c12 => ?_))
        ·
          exact absurd c12 (by decide)
        ·
          refine ev_seq (ev_R tabT [] 1500 ?_)
          refine ev_if (fun c14 => ?_) (fun c14 => ?_)
          ·
            exact absurd c14 (by decide)
          ·
            refine ev_R tabT [] 1600 ?_
            refine ev_if (fun c15 => ?_) (fun c15 => ?_)
            ·
              exact absurd c15 (by decide)
            ·
              refine ev_R tabT [] 1700 ?_
              refine ev_if (fun c16 => ?_) (fun c16 => ?_)
              ·
                exact absurd c16 (by decide)
              ·
                refine ev_R tabT [] 1800 ?_
                refine ev_if (fun c17 => ?_) (fun c17 => ?_)
                ·
                  exact absurd c17 (by decide)
                ·
                  refine ev_Q tabT [] 1900 ?_
                  refine exS_normal (ev_if (fun c18 => ?_) (fun c18 => ?_))
                  ·
                    exact absurd c18 (by decide)
                  ·
                    refine ev_skip (exBl_normal (exS_normal ?_))
                    refine ev_seq (ev_region tabT [] 2300 rfl ?_)
                    refine sat_go ?_
                    refine sat_pick [.clo 89 [], .v (.bool true)] ⟨SubP.fn0, rfl⟩ ?_
                    refine sat_go ?_
                    refine sat_done (exS_normal ?_)
                    refine ev_seq (ev_region tabT [] 2400 rfl ?_)
                    refine sat_go ?_
                    refine sat_fn _ (ratMul_ok p.q q.q) rfl ?_
                    refine sat_go ?_
                    refine sat_fn _ (opNumber_ok _ _ _ _) rfl ?_
                    refine sat_go ?_
                    refine sat_done (exS_normal (ev_ret ?_))
                    exact FinV.ret rfl (SubP.of_eq (by rw [nb_red]; rfl))
theorem opNum8_ok (a b : Vl) (p : Qr.Nm a) (q : Qr.Nm b) : Fn Tryz.prog 66 [.v (.int .i64 8), .agg (vlD a), .agg (vlD b)] (.tup [.agg (stD (Qr.divS a b)), .v (.bool true)]) := by
  refine fn_ev tabT Tryz.func66 rfl rfl rfl rfl rfl rfl ?_
  intro w0 s0 mx
  refine ev_R tabT [] 100 ?_
  refine ev_seq (ev_region tabT [] 200 rfl ?_)
  refine sat_go ?_
  refine sat_fn _ (opRatio_ok a p) rfl ?_
  refine sat_go ?_
  refine sat_done (exS_normal ?_)
  refine ev_seq (ev_region tabT [] 300 rfl ?_)
  refine sat_go ?_
  refine sat_fn _ (opRatio_ok b q) rfl ?_
  refine sat_go ?_
  refine sat_done (exS_normal (ev_seq (ev_R tabT [] 400 ?_)))
  refine ev_if (fun c3 => ?_) (fun c3 => ?_)
  ·
    exact absurd c3 (by decide)
  ·
    refine ev_skip (exS_normal (ev_R tabT [] 600 ?_))
    refine ev_seq (ev_R tabT [] 700 ?_)
    refine ev_block (ev_R tabT [] 800 ?_)
    refine ev_if (fun c7 => ?_) (fun c7 => ?_)
    ·
      exact absurd c7 (by decide)
    ·
      refine ev_seq (ev_R tabT [] 1200 ?_)
      refine ev_if (fun c11 => ?_) (fun c11 => ?_)
      ·
        exact absurd c11 (by decide)
      ·
        refine ev_Q tabT [] 1300 ?_
        refine exS_normal (ev_if (fun c12 => ?_) (fun c12 => ?_))
        ·
          exact absurd c12 (by decide)
        ·
          refine ev_seq (ev_R tabT [] 1500 ?_)
          refine ev_if (fun c14 => ?_) (fun c14 => ?_)
          ·
            exact absurd c14 (by decide)
          ·
            refine ev_R tabT [] 1600 ?_
            refine ev_if (fun c15 => ?_) (fun c15 => ?_)
            ·
              exact absurd c15 (by decide)
            ·
              refine ev_R tabT [] 1700 ?_
              refine ev_if (fun c16 => ?_) (fun c16 => ?_)
              ·
                exact absurd c16 (by decide)
              ·
                refine ev_R tabT [] 1800 ?_
                refine ev_if (fun c17 => ?_) (fun c17 => ?_)
                ·
                  exact absurd c17 (by decide)
                ·
                  refine ev_Q tabT [] 1900 ?_
                  refine exS_normal (ev_if (fun c18 => ?_) (fun c18 => ?_))
                  ·
                    exact absurd c18 (by decide)
                  ·
                    refine ev_skip (exBl_normal (exS_normal ?_))
                    refine ev_seq (ev_region tabT [] 2300 rfl ?_)
                    refine sat_go ?_
                    refine sat_pick [.clo 90 [], .v (.bool true)] ⟨SubP.fn0, rfl⟩ ?_
                    refine sat_go ?_
                    refine sat_done (exS_normal ?_)
                    refine ev_seq (ev_region tabT [] 2400 rfl ?_)
                    refine sat_go ?_
                    refine sat_fn _ (ratDiv_ok p.q q.q) rfl ?_
                    refine sat_go ?_
                    refine sat_fn _ (opNumber_ok _ _ _ _) rfl ?_
                    refine sat_go ?_
                    refine sat_done (exS_normal (ev_ret ?_))
                    exact FinV.ret rfl (SubP.of_eq (by rw [nb_dv]; rfl))
theorem opNumNo_ok (b : Vl) (q : Qr.Nm b) : Fn Tryz.prog 66 [.v (.int .i64 7), .agg (vlD vl0), .agg (vlD b)] (.tup [.agg (stD st0), .v (.bool false)]) := by
  refine fn_ev tabT Tryz.func66 rfl rfl rfl rfl rfl rfl ?_
  intro w0 s0 mx
  refine ev_R tabT [] 100 ?_
  refine ev_seq (ev_region tabT [] 200 rfl ?_)
  refine sat_go ?_
  refine sat_fn _ (opRatio0_ok) rfl ?_
  refine sat_go ?_
  refine sat_done (exS_normal ?_)
  refine ev_seq (ev_region tabT [] 300 rfl ?_)
  refine sat_go ?_
  refine sat_fn _ (opRatio_ok b q) rfl ?_
  refine sat_go ?_
  refine sat_done (exS_normal (ev_seq (ev_R tabT [] 400 ?_)))
  refine ev_if (fun c3 => ?_) (fun c3 => ?_)
  ·
    refine ev_R tabT [] 500 ?_
    refine ev_ret (exS_ret ?_)
    exact FinV.ret rfl (SubP.tup ⟨SubP.agg (by repeat (first | exact trivial | exact SubP.refl _ | exact SubP.nilSl rfl | refine ⟨?_, ?_⟩)), SubP.refl _, trivial⟩)
  ·
    exact absurd c3 (by decide)
end Go.Proofs.YtnkjenaanjnihaaGreatDoor
