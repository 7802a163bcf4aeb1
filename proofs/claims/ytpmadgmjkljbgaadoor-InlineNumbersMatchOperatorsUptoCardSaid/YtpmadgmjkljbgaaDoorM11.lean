/- Part 11 of the proof. -/
import Derived.Test.YtpmadgmjkljbgaaDoorM10
import Derived.Laws.Rows
import Derived.Laws.CopyOwn

/- Walks: values compared: slices.Equal, SameInt, SameValue; IntOk; IsNumber. -/
namespace Go.Proofs.YtpmadgmjkljbgaaDoor
open Go.RowKit

theorem below_drewN' {B : Nat} {a w : World} (h : Below B a w) : ∀ q, Below B a (w.drewN q)
  | 0 => h
  | q + 1 => (below_drewN' h q).drew

/-- A value as it stands. -/
structure Vl where
  k : Int
  nn : Bool
  nl : List Nat
  dn : Bool
  dl : List Nat
  s : ByteArray
  r : Int
/-- A value that reads as x. -/
def VlAt (w : World) (v : Value) (x : Vl) : Prop := ∃ a b, v = .agg #[.int .i64 x.k, .bool x.nn, a, .bool x.dn, b, .string x.s, .int .i64 x.r] ∧ RowU w a x.nl ∧ RowU w b x.dl
theorem VlAt.below {w w' : World} {v : Value} {x : Vl} (h : VlAt w v x) (hb : Below w.heap.size w w') : VlAt w' v x := by
  obtain ⟨a, b, rfl, h1, h2⟩ := h
  exact ⟨a, b, rfl, h1.below hb, h2.below hb⟩
/-- Its numbers lie in their kinds' ranges. -/
structure VlIn (x : Vl) : Prop where
  k1 : -9223372036854775808 ≤ x.k
  k2 : x.k ≤ 9223372036854775807
  r1 : -9223372036854775808 ≤ x.r
  r2 : x.r ≤ 9223372036854775807
  nl : Lg x.nl
  dl : Lg x.dl
  nn : x.nl.length ≤ 2000000
  dn : x.dl.length ≤ 2000000
  s : x.s.size ≤ 2000000

set_option maxRecDepth 100000 in
set_option maxHeartbeats 1000000 in
theorem EqualU_any (v1 v2 : Value) (l1 l2 : List Nat) (w : World) (h1 : RowU w v1 l1) (h2 : RowU w v2 l2) (n1 : l1.length ≤ 2000000) :
    Calls Tryd.prog 37 #[v1, v2] w fun e w' => e = .returned (.bool (decide (l1 = l2))) ∧ Below w.heap.size w w' := by
  have H1 := Lib.hid h1
  have H2 := Lib.hid h2
  obtain ⟨a1, c1, rfl, -⟩ := h1
  obtain ⟨a2, c2, rfl, -⟩ := h2
  by_cases hl : l1.length = l2.length
  · have hneq : ((l1.length : Int) != (l2.length : Int)) = false := by simp [hl]
    have HL := Lib.hid hl
    generalize hn2 : l2.length = m2 at *
    have HN2 := Lib.hid hn2
    clear hn2
    go_enter Tryd.func37, Tryd.ntmps37
    go_wp2
    clear hneq hl
    go_loopg [13] l1.length (fun q s13 wr => ∃ k : Nat, k ≤ l1.length ∧ l1.length - k ≤ q ∧ s13 = .int .i64 k ∧ Hid (l1.take k = l2.take k) ∧ Below w.heap.size w wr)
    case atStart => exact ⟨0, Nat.zero_le _, by omega, rfl, rfl, Below.refl _ _⟩
    case round =>
      obtain ⟨k, hk, hq, rfl, hT, hb⟩ := hrel
      by_cases hlt : k < l1.length
      · have hlt2 : k < l2.length := by have := HL.out; have := HN2.out; omega
        have hltm : k < m2 := by have := HN2.out; omega
        obtain ⟨a1', c1', he, _, _, hc1⟩ := H1.out.below hb
        simp only [Value.slice.injEq, true_and] at he
        obtain ⟨rfl, rfl⟩ := he
        obtain ⟨a2', c2', he, _, _, hc2⟩ := H2.out.below hb
        simp only [Value.slice.injEq] at he
        obtain ⟨rfl, -, rfl⟩ := he
        obtain ⟨b1, o1, rfl, z1⟩ := hc1 k hlt
        obtain ⟨b2, o2, rfl, z2⟩ := hc2 k hlt2
        have HT := hT
        clear hc1 hc2 hT
        by_cases hxy : l1[k] = l2[k]
        · have HS := Lib.hid (show l1.take (k + 1) = l2.take (k + 1) by rw [List.take_succ_eq_append_getElem hlt, List.take_succ_eq_append_getElem hlt2, HT.out, hxy])
          rw [hxy] at z1
          clear hxy HT
          generalize l2[k] = x at *
          go_wp2
          go_quiet (fail)
          go_wp2
          go_roundg (l1.length - (k + 1))
          case measure => omega
          case rel => exact ⟨k + 1, by omega, by omega, by go_num, HS, below_drewN' hb _⟩
        · have HF := Lib.hid (show decide (l1 = l2) = false by
            simp only [decide_eq_false_iff_not]
            rintro rfl
            exact hxy rfl)
          have hb1 : ((l1[k] : Int) != (l2[k] : Int)) = true := by simp; omega
          have hb2 : (l1[k] == l2[k]) = false := by simpa using hxy
          have hb3 : (l1[k] != l2[k]) = true := by simpa using hxy
          clear hxy HT
          generalize l2[k] = y at *
          generalize l1[k] = x at *
          go_wp2
          go_quiet (fail)
          go_wp2
          go_ret
          exact ⟨ret_bool HF.out.symm, below_drewN' hb _⟩
      · have HF := Lib.hid (show decide (l1 = l2) = true by
          have h := hT.out
          rw [List.take_of_length_le (by omega), List.take_of_length_le (by have := HL.out; have := HN2.out; omega)] at h
          simpa using h)
        have hge : ¬ ((k : Int) < (m2 : Int)) := by have := HL.out; omega
        clear hT
        go_wp2
        go_ret
        exact ⟨ret_bool HF.out.symm, hb⟩
  · have hneq : ((l1.length : Int) != (l2.length : Int)) = true := by simp; omega
    have HF := Lib.hid (show decide (l1 = l2) = false by simp only [decide_eq_false_iff_not]; rintro rfl; exact hl rfl)
    clear hl
    generalize l2.length = m2 at *
    generalize l1.length = m1 at *
    go_enter Tryd.func37, Tryd.ntmps37
    go_wp2
    go_ret
    exact ⟨ret_bool HF.out.symm, Below.refl _ _⟩

def sameI (b1 : Bool) (l1 : List Nat) (b2 : Bool) (l2 : List Nat) : Bool := (b1 == b2) && decide (l1 = l2)
set_option maxHeartbeats 1000000 in
theorem SameInt_any (b1 b2 : Bool) (v1 v2 : Value) (l1 l2 : List Nat) (w : World) (h1 : RowU w v1 l1) (h2 : RowU w v2 l2) (n1 : l1.length ≤ 2000000) :
    Calls Tryd.prog 13 #[.agg #[.bool b1, v1], .agg #[.bool b2, v2]] w fun e w' => e = .returned (.bool (sameI b1 l1 b2 l2)) ∧ Below w.heap.size w w' := by
  have HE := Lib.hid (fun W (h : Below w.heap.size w W) => EqualU_any v1 v2 l1 l2 W (h1.below h) (h2.below h) n1)
  unfold sameI
  obtain ⟨a1, c1, rfl, -⟩ := h1
  obtain ⟨a2, c2, rfl, -⟩ := h2
  generalize l1.length = m1 at *
  generalize l2.length = m2 at *
  generalize decide (l1 = l2) = D at *
  have hal := alloc2 w (.cells #[.bool b1, .slice a1 m1 c1] 24) (.cells #[.bool b2, .slice a2 m2 c2] 24)
  go_enter Tryd.func13, Tryd.ntmps13
  go_upto_region 1 with fail
  generalize ((w.alloc (.cells #[.bool b1, .slice a1 m1 c1] 24)).alloc (.cells #[.bool b2, .slice a2 m2 c2] 24)) = w1 at *
  obtain ⟨hb1, x1, x2⟩ := hal
  have d0 := box_cell x1 0
  have d1 := box_cell x1 1
  have e0 := box_cell x2 0
  have e1 := box_cell x2 1
  simp only [List.getElem?_toArray, List.getElem?_cons_zero, List.getElem?_cons_succ] at d0 d1 e0 e1
  clear x1 x2
  cases b1 <;> cases b2
  case true.false => go_wp2; go_ret; exact ⟨rfl, hb1⟩
  case false.true => go_wp2; go_ret; exact ⟨rfl, hb1⟩
  all_goals
    go_wp2_with fail
    refine (HE.out w1 hb1).mono ?_
    rintro e w2 ⟨rfl, hb2⟩
    go_wp2
    go_ret
    exact ⟨by simp, ext_trans hb1 hb2⟩

def intOk (b : Bool) (l : List Nat) : Bool := decide (l.length ≤ 128) && ((decide (l.length = 0) && !b) || (decide (0 < l.length) && decide (l.getD (l.length - 1) 0 ≠ 0)))
set_option maxHeartbeats 2000000 in
theorem IntOk_any (b1 : Bool) (v1 : Value) (l1 : List Nat) (w : World) (h1 : RowU w v1 l1) (n1 : l1.length ≤ 2000000) :
    Calls Tryd.prog 14 #[.agg #[.bool b1, v1]] w fun e w' => e = .returned (.bool (intOk b1 l1)) ∧ Below w.heap.size w w' := by
  obtain ⟨a1, c1, rfl, hlc, hcm, hc⟩ := h1
  have hal := ext_alloc w (.cells #[.bool b1, .slice a1 l1.length c1] 24)
  have hx := heap_new w (.cells #[.bool b1, .slice a1 l1.length c1] 24)
  by_cases hl : l1.length ≤ 128
  · by_cases h0 : l1.length = 0
    · have HF := Lib.hid (show intOk b1 l1 = !b1 by unfold intOk; simp [h0])
      have hl0 : (l1.length : Int) = 0 := by omega
      clear hc
      generalize l1.length = m1 at *
      subst h0
      go_enter Tryd.func14, Tryd.ntmps14
      go_upto_region 1 with fail
      generalize (w.alloc (.cells #[.bool b1, .slice a1 0 c1] 24)) = w1 at *
      have d0 := box_cell hx 0
      have d1 := box_cell hx 1
      simp only [List.getElem?_toArray, List.getElem?_cons_zero, List.getElem?_cons_succ] at d0 d1
      clear hx hl0
      cases b1
      · go_wp2; go_ret; exact ⟨ret_bool HF.out.symm, hal⟩
      · go_wp2; go_ret; exact ⟨ret_bool HF.out.symm, hal⟩
    · have hpos : 0 < l1.length := by omega
      have hposI : (0 : Int) < (l1.length : Int) := by omega
      have hne : ((l1.length : Int) == 0) = false := by rw [beq_eq_false_iff_ne]; omega
      obtain ⟨b, off, rfl, hcell⟩ := hc (l1.length - 1) (by omega)
      have hcell1 := hal.cell (World.block_lt_of_cell? _ _ hcell)
      have hcell2 := hcell1.trans hcell
      have HF := Lib.hid (show intOk b1 l1 = decide (l1[l1.length - 1] ≠ 0) by
        unfold intOk
        have e : l1.getD (l1.length - 1) 0 = l1[l1.length - 1] := getD_lt (by omega)
        rw [e]
        simp [hl, h0, hpos])
      have hw : IntKind.i64.wrap ((l1.length : Int) - 1) = (l1.length : Int) - 1 := IntWalk.i64_in _ (by omega)
      have hs0 : (0 : Int) ≤ (l1.length : Int) - 1 := by omega
      have hs1 : (1 : Int) ≤ (l1.length : Int) := by omega
      have hs2 : ((l1.length : Int) - 1).toNat = l1.length - 1 := by omega
      generalize l1[l1.length - 1] = y at *
      clear hc hcell hcell1
      generalize l1.length = m1 at *
      go_enter Tryd.func14, Tryd.ntmps14
      go_upto_region 1 with fail
      generalize (w.alloc (.cells #[.bool b1, .slice (some ⟨b, off, none⟩) m1 c1] 24)) = w1 at *
      have d0 := box_cell hx 0
      have d1 := box_cell hx 1
      simp only [List.getElem?_toArray, List.getElem?_cons_zero, List.getElem?_cons_succ] at d0 d1
      clear hx
      by_cases hy : y = 0
      · have hF : decide (y ≠ 0) = false := by simpa using hy
        rw [hF] at HF
        subst hy
        go_wp2; go_ret; exact ⟨ret_bool HF.out.symm, hal⟩
      · have hF : decide (y ≠ 0) = true := by simpa using hy
        have hy1 : ((y : Int) != 0) = true := by simp; omega
        rw [hF] at HF
        clear hF
        go_wp2; go_ret; exact ⟨ret_bool HF.out.symm, hal⟩
  · have HF := Lib.hid (show intOk b1 l1 = false by unfold intOk; simp [hl])
    have hlI : ¬ ((l1.length : Int) ≤ 128) := by omega
    clear hc
    generalize l1.length = m1 at *
    go_enter Tryd.func14, Tryd.ntmps14
    go_upto_region 1 with fail
    generalize (w.alloc (.cells #[.bool b1, .slice a1 m1 c1] 24)) = w1 at *
    have d0 := box_cell hx 0
    have d1 := box_cell hx 1
    simp only [List.getElem?_toArray, List.getElem?_cons_zero, List.getElem?_cons_succ] at d0 d1
    clear hx
    go_wp2; go_ret; exact ⟨ret_bool HF.out.symm, hal⟩

set_option maxHeartbeats 2000000 in
theorem IsNumber_any (v : Value) (x : Vl) (w : World) (hv : VlAt w v x) :
    Calls Tryd.prog 20 #[v] w fun e w' => e = .returned (.bool (decide (x.k = 2) || decide (x.k = 3))) ∧ Below w.heap.size w w' := by
  obtain ⟨k, nn, nl, dn, dl, s, r⟩ := x
  obtain ⟨a, b, rfl, h1, h2⟩ := hv
  obtain ⟨a1, c1, rfl, -⟩ := h1
  obtain ⟨a2, c2, rfl, -⟩ := h2
  simp only
  generalize nl.length = m1 at *
  generalize dl.length = m2 at *
  have hal := ext_alloc w (.cells #[.int .i64 k, .bool nn, .slice a1 m1 c1, .bool dn, .slice a2 m2 c2, .string s, .int .i64 r] 26)
  have hx := heap_new w (.cells #[.int .i64 k, .bool nn, .slice a1 m1 c1, .bool dn, .slice a2 m2 c2, .string s, .int .i64 r] 26)
  go_enter Tryd.func20, Tryd.ntmps20
  go_upto_region 1 with fail
  generalize (w.alloc (.cells #[.int .i64 k, .bool nn, .slice a1 m1 c1, .bool dn, .slice a2 m2 c2, .string s, .int .i64 r] 26)) = w1 at *
  have d0 := box_cell hx 0
  simp only [List.getElem?_toArray, List.getElem?_cons_zero, List.getElem?_cons_succ] at d0
  clear hx
  by_cases k2 : k = 2
  · subst k2
    go_wp2; go_ret; exact ⟨by simp, hal⟩
  · have k2' : (k == 2) = false := by simpa using k2
    by_cases k3 : k = 3
    · subst k3
      go_wp2; go_ret; exact ⟨by simp, hal⟩
    · have k3' : (k == 3) = false := by simpa using k3
      have HF := Lib.hid (show (decide (k = 2) || decide (k = 3)) = false by simp [k2, k3])
      clear k2 k3
      go_wp2; go_ret; exact ⟨ret_bool HF.out.symm, hal⟩
end Go.Proofs.YtpmadgmjkljbgaaDoor

/- Structs of many cells, stored, loaded and returned whole; steps. -/
namespace Go.Proofs.YtpmadgmjkljbgaaDoor
open Go.RowKit

/-- A struct of n cells. -/
def StructT (ty : TypeId) (n : Nat) : Prop := ∃ d, Tryd.prog.underlying ty = some d ∧ (match d with | .struct _ | .array _ _ => true | _ => false) = true ∧ (Tryd.prog.info? ty).map (·.size) = some n
section
variable {ops : Array Oper} {Q : Exit → Act → World → Prop} {rest : List Oper} {a : Act} {w : World}
/-- A struct goes into its box as a whole. -/
theorem wpL_store {ty tt : TypeId} {x y : Operand} {pos : String} {aft : Array Edge} {g : Nat} {cells old : Array Value} {t : TypeId} {n : Nat} (hT : StructT ty n) (hg : w.heap[g]? = some (.cells old t (0, 0))) (hn : old.size = n) (hc : cells.size = n)
    (h1 : cells.toList.all (·.oneCell') = true) (hx : a.eval x = .pointer (some ⟨g, 0, none⟩)) (hy : a.eval y = .agg cells) (h : wpList Tryd.prog ops Q rest (a.put none undef) (w.setRow g cells)) :
    wpList Tryd.prog ops Q (⟨none, .store ty x y, tt, pos, aft, none⟩ :: rest) a w :=
  wpList_plain rfl fun _ hK => by
    obtain ⟨d, _, _, hi⟩ := hT
    exact wp_store_row ty x y rfl g cells hx hy t old hg (by rw [hc]; exact hi) (by omega) (Array.all_eq_true_iff_forall_mem.2 fun v hv => List.all_eq_true.1 h1 v (by simpa using hv)) (hK _ _ h)
/-- A struct comes out of its box as a whole. -/
theorem wpL_load {dst : Option Tmp} {ty tt : TypeId} {x : Operand} {pos : String} {aft : Array Edge} {g : Nat} {cells : Array Value} {t : TypeId} {fr : Nat × Nat} {n : Nat} (hT : StructT ty n) (hg : w.heap[g]? = some (.cells cells t fr)) (hc : cells.size = n)
    (hx : a.eval x = .pointer (some ⟨g, 0, none⟩)) (h : wpList Tryd.prog ops Q rest (a.put dst (.agg cells)) w) :
    wpList Tryd.prog ops Q (⟨dst, .load ty x, tt, pos, aft, none⟩ :: rest) a w :=
  wpList_plain rfl fun _ hK => by
    obtain ⟨d, hu, hd, hi⟩ := hT
    unfold Oper.wp execOp
    have hl := run_loadVar_row (P := Tryd.prog) w g t ty cells fr d hg hu (by revert hu hd; cases d <;> intro hu hd <;> first | rfl | exact hd) (by rw [hc]; exact hi)
    simp only [hx, Instr.loadAt, Instr.sureAddr, Sem.run_bind, Sem.run_pure, Result.andThen_ok, hl]
    exact hK _ _ h
end
theorem asAddr_run (p : Addr) (w : World) : (asAddr (.pointer (some p))).run Tryd.prog w = .ok p w := by simp [asAddr]
theorem results_cell {fn : Func} {t : Tmp} {ty : TypeId} (h : fn.results = #[.cell t ty]) {tmps : Array Value} {w : World} {g : Nat} {cs : Array Value} {tt : TypeId} {fr : Nat × Nat} {n : Nat} (hT : StructT ty n) (ht : tmps.getD t undef = .pointer (some ⟨g, 0, none⟩))
    (hg : w.heap[g]? = some (.cells cs tt fr)) (hc : cs.size = n) : (results fn tmps).run Tryd.prog w = .ok (.agg cs) w := by
  obtain ⟨d, hu, hd, hi⟩ := hT
  rw [Array.getD_eq_getD_getElem?] at ht
  simp [results, h, ht, asAddr, run_loadVar_row (P := Tryd.prog) w g tt ty cs fr d hg hu (by revert hu hd; cases d <;> intro hu hd <;> first | rfl | exact hd) (by rw [hc]; exact hi)]
theorem results_cell_tmp {fn : Func} {t u : Tmp} {ty : TypeId} (h : fn.results = #[.cell t ty, .tmp u]) {tmps : Array Value} {w : World} {g : Nat} {cs : Array Value} {tt : TypeId} {fr : Nat × Nat} {n : Nat} (hT : StructT ty n) (ht : tmps.getD t undef = .pointer (some ⟨g, 0, none⟩))
    (hg : w.heap[g]? = some (.cells cs tt fr)) (hc : cs.size = n) : (results fn tmps).run Tryd.prog w = .ok (.tuple #[.agg cs, tmps.getD u undef]) w := by
  obtain ⟨d, hu, hd, hi⟩ := hT
  rw [Array.getD_eq_getD_getElem?] at ht
  simp [results, h, ht, asAddr, run_loadVar_row (P := Tryd.prog) w g tt ty cs fr d hg hu (by revert hu hd; cases d <;> intro hu hd <;> first | rfl | exact hd) (by rw [hc]; exact hi)]
theorem stStep : StructT 33 18 := ⟨_, Tryd.underlying33, rfl, by kernel_rfl⟩
theorem stVal : StructT 26 7 := ⟨_, Tryd.underlying26, rfl, by kernel_rfl⟩
theorem stInt : StructT 41 2 := ⟨_, Tryd.underlying41, rfl, by kernel_rfl⟩
theorem stRat : StructT 43 3 := ⟨_, Tryd.underlying43, rfl, by kernel_rfl⟩

/-- A struct laid into a box: what stands where. -/
theorem setRow_facts {W : World} {N : Nat} {cs : Array Value} {t : TypeId} (h : W.heap[N]? = some (.cells cs t (0, 0))) (l : Array Value) :
    (W.setRow N l).heap[N]? = some (.cells l t (0, 0)) ∧ (∀ k, k < W.heap.size → k ≠ N → (W.setRow N l).heap[k]? = W.heap[k]?) ∧ (∀ w B, B ≤ N → Below B w W → Below B w (W.setRow N l)) :=
  ⟨setRow_heap W N cs l t _ h, fun k _ hk => setRow_other W N k l hk, fun w B hB hb => below_setRow hb hB l⟩

/-- Cells without a limb among them. -/
def NoU (cs : List Value) : Prop := ∀ x ∈ cs, ∀ d, x ≠ .int .u32 d
theorem RowU.other {W W' : World} {M : Nat} {old : List Value} {t : TypeId} {v : Value} {l : List Nat} (h : RowU W v l) (hM : W.heap[M]? = some (.cells old.toArray t (0, 0))) (hne : NoU old) (hk : ∀ k, k < W.heap.size → k ≠ M → W'.heap[k]? = W.heap[k]?) : RowU W' v l :=
  RowOf.other h hM (fun x hx y => hne x hx _) hk
theorem VlAt.other {W W' : World} {M : Nat} {old : List Value} {t : TypeId} {v : Value} {x : Vl} (h : VlAt W v x) (hM : W.heap[M]? = some (.cells old.toArray t (0, 0))) (hne : NoU old) (hk : ∀ k, k < W.heap.size → k ≠ M → W'.heap[k]? = W.heap[k]?) : VlAt W' v x := by
  obtain ⟨a, b, rfl, h1, h2⟩ := h
  exact ⟨a, b, rfl, RowU.other h1 hM hne hk, RowU.other h2 hM hne hk⟩

/-- A step whose value reads as x. -/
def StepOf (w : World) (v : Value) (x : Vl) : Prop := ∃ (k cls : Int) (txt : ByteArray) (a b : Value) (k2 : Int) (n2 : Bool) (p2 : Option Addr) (l2 c2 : Nat) (d2 : Bool) (q2 : Option Addr) (m2 e2 : Nat) (s2 : ByteArray) (r2 : Int) (p3 : Option Addr) (l3 c3 : Nat),
  v = .agg #[.int .i64 k, .int .i64 x.k, .bool x.nn, a, .bool x.dn, b, .string x.s, .int .i64 x.r, .int .i64 cls, .string txt, .int .i64 k2, .bool n2, .slice p2 l2 c2, .bool d2, .slice q2 m2 e2, .string s2, .int .i64 r2, .slice p3 l3 c3] ∧ RowU w a x.nl ∧ RowU w b x.dl
theorem StepOf.below {w w' : World} {v : Value} {x : Vl} (h : StepOf w v x) (hb : Below w.heap.size w w') : StepOf w' v x := by
  obtain ⟨k, cls, txt, a, b, k2, n2, p2, l2, c2, d2, q2, m2, e2, s2, r2, p3, l3, c3, rfl, h1, h2⟩ := h
  exact ⟨k, cls, txt, a, b, k2, n2, p2, l2, c2, d2, q2, m2, e2, s2, r2, p3, l3, c3, rfl, h1.below hb, h2.below hb⟩
theorem StepOf.other {W W' : World} {M : Nat} {old : List Value} {t : TypeId} {v : Value} {x : Vl} (h : StepOf W v x) (hM : W.heap[M]? = some (.cells old.toArray t (0, 0))) (hne : NoU old) (hk : ∀ k, k < W.heap.size → k ≠ M → W'.heap[k]? = W.heap[k]?) : StepOf W' v x := by
  obtain ⟨k, cls, txt, a, b, k2, n2, p2, l2, c2, d2, q2, m2, e2, s2, r2, p3, l3, c3, rfl, h1, h2⟩ := h
  exact ⟨k, cls, txt, a, b, k2, n2, p2, l2, c2, d2, q2, m2, e2, s2, r2, p3, l3, c3, rfl, RowU.other h1 hM hne hk, RowU.other h2 hM hne hk⟩
/-- The cells of a step. -/
theorem StepOf.cells {W : World} {v : Value} {x : Vl} (h : StepOf W v x) : ∃ cs : List Value, v = .agg cs.toArray ∧ cs.length = 18 ∧ cs.all (·.oneCell') = true ∧ NoU cs := by
  obtain ⟨k, cls, txt, a, b, k2, n2, p2, l2, c2, d2, q2, m2, e2, s2, r2, p3, l3, c3, rfl, h1, h2⟩ := h
  obtain ⟨a1, c1, rfl, -⟩ := h1
  obtain ⟨a2, c4, rfl, -⟩ := h2
  refine ⟨[_, _, _, _, _, _, _, _, _, _, _, _, _, _, _, _, _, _], rfl, rfl, by simp [Value.oneCell'], ?_⟩
  intro y hy d
  simp only [List.mem_cons, List.not_mem_nil, or_false] at hy
  rcases hy with rfl | rfl | rfl | rfl | rfl | rfl | rfl | rfl | rfl | rfl | rfl | rfl | rfl | rfl | rfl | rfl | rfl | rfl <;> simp
theorem VlAt.cells {W : World} {v : Value} {x : Vl} (h : VlAt W v x) : ∃ cs : List Value, v = .agg cs.toArray ∧ cs.length = 7 ∧ cs.all (·.oneCell') = true ∧ NoU cs := by
  obtain ⟨a, b, rfl, h1, h2⟩ := h
  obtain ⟨a1, c1, rfl, -⟩ := h1
  obtain ⟨a2, c4, rfl, -⟩ := h2
  refine ⟨[_, _, _, _, _, _, _], rfl, rfl, by simp [Value.oneCell'], ?_⟩
  intro y hy d
  simp only [List.mem_cons, List.not_mem_nil, or_false] at hy
  rcases hy with rfl | rfl | rfl | rfl | rfl | rfl | rfl <;> simp

set_option maxRecDepth 100000 in
set_option maxHeartbeats 2000000 in
theorem Raise_any (cls : Int) (txt : ByteArray) (w : World) :
    Calls Tryd.prog 26 #[.int .i64 cls, .string txt] w fun e w' => e = .returned (.agg #[.int .i64 1, .int .i64 0, .bool false, .slice none 0 0, .bool false, .slice none 0 0, .string ⟨#[]⟩, .int .i64 0, .int .i64 cls, .string txt, .int .i64 0, .bool false, .slice none 0 0, .bool false, .slice none 0 0, .string ⟨#[]⟩, .int .i64 0, .slice none 0 0]) ∧ Below w.heap.size w w' := by
  have hal1 := ext_alloc w (.cells #[.int .i64 0, .int .i64 0, .bool false, .slice none 0 0, .bool false, .slice none 0 0, .string ⟨#[]⟩, .int .i64 0, .int .i64 0, .string ⟨#[]⟩, .int .i64 0, .bool false, .slice none 0 0, .bool false, .slice none 0 0, .string ⟨#[]⟩, .int .i64 0, .slice none 0 0] 33)
  have hal2 := heap_new w (.cells #[.int .i64 0, .int .i64 0, .bool false, .slice none 0 0, .bool false, .slice none 0 0, .string ⟨#[]⟩, .int .i64 0, .int .i64 0, .string ⟨#[]⟩, .int .i64 0, .bool false, .slice none 0 0, .bool false, .slice none 0 0, .string ⟨#[]⟩, .int .i64 0, .slice none 0 0] 33)
  go_enter Tryd.func26, Tryd.ntmps26
  go_upto_region 1 with fail
  generalize (w.alloc (.cells #[.int .i64 0, .int .i64 0, .bool false, .slice none 0 0, .bool false, .slice none 0 0, .string ⟨#[]⟩, .int .i64 0, .int .i64 0, .string ⟨#[]⟩, .int .i64 0, .bool false, .slice none 0 0, .bool false, .slice none 0 0, .string ⟨#[]⟩, .int .i64 0, .slice none 0 0] 33)) = w1 at *
  have hb1 := hal1
  have h1 := hal2
  clear hal1 hal2
  go_wp2_with (refine wpL_store (cells := #[.int .i64 1, .int .i64 0, .bool false, .slice none 0 0, .bool false, .slice none 0 0, .string ⟨#[]⟩, .int .i64 0, .int .i64 cls, .string txt, .int .i64 0, .bool false, .slice none 0 0, .bool false, .slice none 0 0, .string ⟨#[]⟩, .int .i64 0, .slice none 0 0]) stStep h1 (by rfl) (by rfl) (by rfl) (by rfl) (by rfl) ?_)
  have hs := setRow_facts h1 #[.int .i64 1, .int .i64 0, .bool false, .slice none 0 0, .bool false, .slice none 0 0, .string ⟨#[]⟩, .int .i64 0, .int .i64 cls, .string txt, .int .i64 0, .bool false, .slice none 0 0, .bool false, .slice none 0 0, .string ⟨#[]⟩, .int .i64 0, .slice none 0 0]
  exact bodyPost_ret (results_cell rfl stStep rfl hs.1 rfl) rfl ⟨rfl, hs.2.2 _ _ (Nat.le_refl _) hb1⟩

/-- The same at one operation. -/
theorem wpO_store {Q : Exit → Act → World → Prop} {a : Act} {w : World} {K : Act → World → Prop} {ty tt : TypeId} {x y : Operand} {pos : String} {aft : Array Edge} {g : Nat} {cells old : Array Value} {t : TypeId} {n : Nat} (hT : StructT ty n) (hg : w.heap[g]? = some (.cells old t (0, 0))) (hn : old.size = n) (hc : cells.size = n)
    (h1 : cells.toList.all (·.oneCell') = true) (hx : a.eval x = .pointer (some ⟨g, 0, none⟩)) (hy : a.eval y = .agg cells) (h : K (a.put none undef) (w.setRow g cells)) :
    Oper.wp Tryd.prog ⟨none, .store ty x y, tt, pos, aft, none⟩ a w K Q := by
  obtain ⟨d, _, _, hi⟩ := hT
  exact wp_store_row ty x y rfl g cells hx hy t old hg (by rw [hc]; exact hi) (by omega) (Array.all_eq_true_iff_forall_mem.2 fun v hv => List.all_eq_true.1 h1 v (by simpa using hv)) h
theorem wpO_load {Q : Exit → Act → World → Prop} {a : Act} {w : World} {K : Act → World → Prop} {dst : Option Tmp} {ty tt : TypeId} {x : Operand} {pos : String} {aft : Array Edge} {g : Nat} {cells : Array Value} {t : TypeId} {fr : Nat × Nat} {n : Nat} (hT : StructT ty n) (hg : w.heap[g]? = some (.cells cells t fr)) (hc : cells.size = n)
    (hx : a.eval x = .pointer (some ⟨g, 0, none⟩)) (h : K (a.put dst (.agg cells)) w) :
    Oper.wp Tryd.prog ⟨dst, .load ty x, tt, pos, aft, none⟩ a w K Q := by
  obtain ⟨d, hu, hd, hi⟩ := hT
  unfold Oper.wp execOp
  have hl := run_loadVar_row (P := Tryd.prog) w g t ty cells fr d hg hu (by revert hu hd; cases d <;> intro hu hd <;> first | rfl | exact hd) (by rw [hc]; exact hi)
  simp only [hx, Instr.loadAt, Instr.sureAddr, Sem.run_bind, Sem.run_pure, Result.andThen_ok, hl]
  exact h
/-- A whole load, taken first. -/
theorem runs_load {T : World → Prop} {a : Act} {dst : Option Tmp} {ty tt : TypeId} {x : Operand} {pos : String} {aft : Array Edge} {gd : Option (Nat × Bool)} {g : Nat} {cells : Array Value} {t : TypeId} {fr : Nat × Nat} {n : Nat} (hT : StructT ty n) (hg : ∀ w, T w → w.heap[g]? = some (.cells cells t fr)) (hc : cells.size = n)
    (hx : a.eval x = .pointer (some ⟨g, 0, none⟩)) : ∀ w, T w → (execOp a.eval ⟨dst, .load ty x, tt, pos, aft, gd⟩).run Tryd.prog w = .ok (.value (.agg cells)) w := by
  intro w hw
  obtain ⟨d, hu, hd, hi⟩ := hT
  unfold execOp
  have hl := run_loadVar_row (P := Tryd.prog) w g t ty cells fr d (hg w hw) hu (by revert hu hd; cases d <;> intro hu hd <;> first | rfl | exact hd) (by rw [hc]; exact hi)
  simp only [hx, Instr.loadAt, Instr.sureAddr, Sem.run_bind, Sem.run_pure, Result.andThen_ok, hl]

theorem noU_zero : NoU [.int .i64 0, .int .i64 0, .bool false, .slice none 0 0, .bool false, .slice none 0 0, .string ⟨#[]⟩, .int .i64 0, .int .i64 0, .string ⟨#[]⟩, .int .i64 0, .bool false, .slice none 0 0, .bool false, .slice none 0 0, .string ⟨#[]⟩, .int .i64 0, .slice none 0 0] := by
  intro x hx d
  simp only [List.mem_cons, List.not_mem_nil, or_false] at hx
  rcases hx with rfl | rfl | rfl | rfl | rfl | rfl | rfl | rfl | rfl | rfl | rfl | rfl | rfl | rfl | rfl | rfl | rfl | rfl <;> simp
theorem noU_zeroV : NoU [.int .i64 0, .bool false, .slice none 0 0, .bool false, .slice none 0 0, .string ⟨#[]⟩, .int .i64 0] := by
  intro x hx d
  simp only [List.mem_cons, List.not_mem_nil, or_false] at hx
  rcases hx with rfl | rfl | rfl | rfl | rfl | rfl | rfl <;> simp

/-- A box that holds a value, a step. -/
def BoxV (W : World) (N : Nat) (x : Vl) : Prop := ∃ cs : List Value, W.heap[N]? = some (.cells cs.toArray 26 (0, 0)) ∧ cs.length = 7 ∧ VlAt W (.agg cs.toArray) x
theorem BoxV.below {W W' : World} {N : Nat} {x : Vl} (h : BoxV W N x) (hb : Below W.heap.size W W') : BoxV W' N x := by
  obtain ⟨cs, h1, h2, h3⟩ := h
  exact ⟨cs, (hb.block _ (box_lt h1)).trans h1, h2, h3.below hb⟩

set_option maxRecDepth 100000 in
set_option maxHeartbeats 2000000 in
theorem TooLarge_any (w : World) :
    Calls Tryd.prog 46 #[] w fun e w' => e = .returned (.agg #[.int .i64 1, .int .i64 0, .bool false, .slice none 0 0, .bool false, .slice none 0 0, .string ⟨#[]⟩, .int .i64 0, .int .i64 42, .string ⟨#[118, 97, 108, 117, 101, 32, 105, 115, 32, 116, 111, 111, 32, 108, 97, 114, 103, 101]⟩, .int .i64 0, .bool false, .slice none 0 0, .bool false, .slice none 0 0, .string ⟨#[]⟩, .int .i64 0, .slice none 0 0]) ∧ Below w.heap.size w w' := by
  have hal1 := ext_alloc w (.cells #[.int .i64 0, .int .i64 0, .bool false, .slice none 0 0, .bool false, .slice none 0 0, .string ⟨#[]⟩, .int .i64 0, .int .i64 0, .string ⟨#[]⟩, .int .i64 0, .bool false, .slice none 0 0, .bool false, .slice none 0 0, .string ⟨#[]⟩, .int .i64 0, .slice none 0 0] 33)
  have hal2 := heap_new w (.cells #[.int .i64 0, .int .i64 0, .bool false, .slice none 0 0, .bool false, .slice none 0 0, .string ⟨#[]⟩, .int .i64 0, .int .i64 0, .string ⟨#[]⟩, .int .i64 0, .bool false, .slice none 0 0, .bool false, .slice none 0 0, .string ⟨#[]⟩, .int .i64 0, .slice none 0 0] 33)
  go_enter Tryd.func46, Tryd.ntmps46
  go_upto_region 1 with fail
  generalize (w.alloc (.cells #[.int .i64 0, .int .i64 0, .bool false, .slice none 0 0, .bool false, .slice none 0 0, .string ⟨#[]⟩, .int .i64 0, .int .i64 0, .string ⟨#[]⟩, .int .i64 0, .bool false, .slice none 0 0, .bool false, .slice none 0 0, .string ⟨#[]⟩, .int .i64 0, .slice none 0 0] 33)) = w1 at *
  have hb1 := hal1
  have h1 := hal2
  clear hal1 hal2
  have HR := Lib.hid (Raise_any 42 ⟨#[118, 97, 108, 117, 101, 32, 105, 115, 32, 116, 111, 111, 32, 108, 97, 114, 103, 101]⟩ w1)
  go_wp2_with fail
  refine (HR.out).mono ?_
  rintro e w2 ⟨rfl, hb2⟩
  replace h1 := (hb2.block _ (box_lt h1)).trans h1
  go_wp2_with (refine wpL_store (cells := #[.int .i64 1, .int .i64 0, .bool false, .slice none 0 0, .bool false, .slice none 0 0, .string ⟨#[]⟩, .int .i64 0, .int .i64 42, .string ⟨#[118, 97, 108, 117, 101, 32, 105, 115, 32, 116, 111, 111, 32, 108, 97, 114, 103, 101]⟩, .int .i64 0, .bool false, .slice none 0 0, .bool false, .slice none 0 0, .string ⟨#[]⟩, .int .i64 0, .slice none 0 0]) stStep h1 (by rfl) (by rfl) (by rfl) (by rfl) (by rfl) ?_)
  have hs := setRow_facts h1 #[.int .i64 1, .int .i64 0, .bool false, .slice none 0 0, .bool false, .slice none 0 0, .string ⟨#[]⟩, .int .i64 0, .int .i64 42, .string ⟨#[118, 97, 108, 117, 101, 32, 105, 115, 32, 116, 111, 111, 32, 108, 97, 114, 103, 101]⟩, .int .i64 0, .bool false, .slice none 0 0, .bool false, .slice none 0 0, .string ⟨#[]⟩, .int .i64 0, .slice none 0 0]
  exact bodyPost_ret (results_cell rfl stStep rfl hs.1 rfl) rfl ⟨rfl, hs.2.2 _ _ (Nat.le_refl _) (ext_trans hb1 hb2)⟩

set_option maxRecDepth 100000 in
set_option maxHeartbeats 2000000 in
theorem Result_any (v : Value) (x : Vl) (w : World) (hv : VlAt w v x) :
    Calls Tryd.prog 47 #[v] w fun e w' => ∃ v', e = .returned v' ∧ StepOf w' v' x ∧ Below w.heap.size w w' := by
  obtain ⟨k, nn, nl, dn, dl, s, r⟩ := x
  obtain ⟨a, b, rfl, hx1, hx2⟩ := hv
  have HX1 := Lib.hid hx1
  have HX2 := Lib.hid hx2
  obtain ⟨a1, c1, rfl, -⟩ := hx1
  obtain ⟨a2, c2, rfl, -⟩ := hx2
  simp only at *
  generalize hm1 : nl.length = m1 at *
  generalize hm2 : dl.length = m2 at *
  clear hm1 hm2
  have hal := alloc2 w (.cells #[.int .i64 k, .bool nn, .slice a1 m1 c1, .bool dn, .slice a2 m2 c2, .string s, .int .i64 r] 26) (.cells #[.int .i64 0, .int .i64 0, .bool false, .slice none 0 0, .bool false, .slice none 0 0, .string ⟨#[]⟩, .int .i64 0, .int .i64 0, .string ⟨#[]⟩, .int .i64 0, .bool false, .slice none 0 0, .bool false, .slice none 0 0, .string ⟨#[]⟩, .int .i64 0, .slice none 0 0] 33)
  go_enter Tryd.func47, Tryd.ntmps47
  go_upto_region 1 with fail
  generalize ((w.alloc (.cells #[.int .i64 k, .bool nn, .slice a1 m1 c1, .bool dn, .slice a2 m2 c2, .string s, .int .i64 r] 26)).alloc (.cells #[.int .i64 0, .int .i64 0, .bool false, .slice none 0 0, .bool false, .slice none 0 0, .string ⟨#[]⟩, .int .i64 0, .int .i64 0, .string ⟨#[]⟩, .int .i64 0, .bool false, .slice none 0 0, .bool false, .slice none 0 0, .string ⟨#[]⟩, .int .i64 0, .slice none 0 0] 33)) = w1 at *
  obtain ⟨hb1, h1, h2⟩ := hal
  go_wp2_with (first | (refine wpL_load stVal h1 (by rfl) (by rfl) ?_) | (refine wpL_store (cells := #[.int .i64 0, .int .i64 k, .bool nn, .slice a1 m1 c1, .bool dn, .slice a2 m2 c2, .string s, .int .i64 r, .int .i64 0, .string ⟨#[]⟩, .int .i64 0, .bool false, .slice none 0 0, .bool false, .slice none 0 0, .string ⟨#[]⟩, .int .i64 0, .slice none 0 0]) stStep h2 (by rfl) (by rfl) (by rfl) (by rfl) (by rfl) ?_))
  have hs := setRow_facts h2 #[.int .i64 0, .int .i64 k, .bool nn, .slice a1 m1 c1, .bool dn, .slice a2 m2 c2, .string s, .int .i64 r, .int .i64 0, .string ⟨#[]⟩, .int .i64 0, .bool false, .slice none 0 0, .bool false, .slice none 0 0, .string ⟨#[]⟩, .int .i64 0, .slice none 0 0]
  exact bodyPost_ret (results_cell rfl stStep rfl hs.1 rfl) rfl ⟨_, rfl, ⟨_, _, _, _, _, _, _, _, _, _, _, _, _, _, _, _, _, _, _, rfl, RowU.other (HX1.out.below hb1) h2 noU_zero hs.2.1, RowU.other (HX2.out.below hb1) h2 noU_zero hs.2.1⟩, hs.2.2 _ _ (Nat.le_succ _) hb1⟩

end Go.Proofs.YtpmadgmjkljbgaaDoor
