/- InlineNumbersMatchOperators: what is computed with small integers is what the operators give. Condition: what the law reads is of bulk at most 1048576 (the second form); the listed variables start as the program's text lays them. -/
import Derived.Test.YtpmadgmjkljbgaaDoorM39
import Derived.Test.YtpmadgmjkljbgaaDoorM40
import Derived.Test.YtpmadgmjkljbgaaDoorCards
import Derived.Test.YtpmadgmjkljbgaaDoorTie
import Derived.Lib.LaidU8T
import Derived.Deep.DeepHandedRow
import Derived.Lib.LaidTab
import Derived.Shelf.Vars

/- InlineNumbersMatchOperators: what is computed with small integers is what the operators give. Condition: what the law reads is of bulk at most 1048576 (the second form); the listed variables start as the program's text lays them. -/
namespace Go.Proofs.YtpmadgmjkljbgaaDoor
open Go.ChangeShapes Go.WideShapes Go.ChangeAt Go.RowKit Go.Shelf

theorem Law_own : ownKnob Tryd.prog.godebug = none := by kernel_rfl
theorem accept_same : (Rows.laid_unicode_utf8_acceptRanges : DataW Unit) = Lib.acceptData := by kernel_rfl
theorem first_same : (Rows.laid_unicode_utf8_first : DataW Unit) = Lib.firstData := by kernel_rfl
theorem Law_tabs {W : World} (hL : laidMetH Tryd.prog Rows.inlineNumbersMatchOperatorsUptoRow.laid W) : Lib.Utf8Tabs 0 1 W := by
  have h3 : Lib.VarReads Tryd.prog W "unicode/utf8.first" Rows.laid_unicode_utf8_first := Lib.laidMet.reads hL (.tail _ (.head _))
  have h4 : Lib.VarReads Tryd.prog W "unicode/utf8.acceptRanges" Rows.laid_unicode_utf8_acceptRanges := Lib.laidMet.reads hL (.head _)
  rw [first_same] at h3
  rw [accept_same] at h4
  exact utf8Tabs_of_readsT (U8Types.of196 Tryd.laysValid) ⟨by kernel_rfl, by kernel_rfl, by kernel_rfl, by kernel_rfl, by kernel_rfl, by kernel_rfl, by kernel_rfl⟩ h3 h4
theorem Law_glob {W : World} (hL : laidMetH Tryd.prog Rows.inlineNumbersMatchOperatorsUptoRow.laid W) (hs : W.ShapedOpen Tryd.prog) : Glob W :=
  ⟨Go.Proofs.cell_of_shapedOpen_int (g := 2) (t := 3) (zero := #[.int .i64 0]) hs (of_decide_eq_true (by kernel_rfl)) (by kernel_rfl) rfl (by kernel_rfl) (by kernel_rfl) Tryd.underlying3, Law_tabs hL⟩

noncomputable def Law_world (os : Os) : World :=
  let w0 := World.holding Tryd.prog os ⟨#[], #[], []⟩
  let put (h : Array Obj) (g : Nat) (cs : Array Value) : Array Obj := h.modify g fun
    | .cells _ t frozen => .cells cs t frozen
    | o => o
  let h1 := put w0.heap 0 (Lib.firstTab.map fun z => Value.int .u8 z).toArray
  let h2 := put h1 1 ((List.range 16).flatMap fun i => [Value.int .u8 (Lib.accLo i), Value.int .u8 (Lib.accHi i)]).toArray
  { w0 with heap := h2 }
def Law_arg : Array Value := #[.int .i64 5, .int .i64 1, .agg #[.int .i64 0, .bool false, .slice none 0 0, .bool false, .slice none 0 0, .string ⟨#[]⟩, .int .i64 0], .agg #[.int .i64 0, .bool false, .slice none 0 0, .bool false, .slice none 0 0, .string ⟨#[]⟩, .int .i64 0]]
theorem Law_met (os : Os) : laidMet Tryd.prog Rows.inlineNumbersMatchOperatorsUptoRow.laid ((Law_world os).forCall (fun _ _ => 0) ⟨#[], Law_arg, []⟩).memory :=
  laidMet_of_run' 8 (by kernel_rfl) (by kernel_rfl)
theorem Law_row (os : Os) {H : Type} (enc : TypeId × Value → H) :
    (Rows.OpenSpec.upto Rows.inlineNumbersMatchOperatorsSpec).preRow enc Tryd.prog Tryd.f3 Rows.inlineNumbersMatchOperatorsUptoRow.domain false Rows.inlineNumbersMatchOperatorsUptoRow.laid ((Law_world os).forCall (fun _ _ => 0) ⟨#[], Law_arg, []⟩).memory Law_arg := by
  have hw : (DataW.whole enc Tryd.prog ((Law_world os).forCall (fun _ _ => 0) ⟨#[], Law_arg, []⟩).memory Tryd.f3.params.toList Rows.inlineNumbersMatchOperatorsSpec.vars false Law_arg.toList 8).map (fun x => (x.1, x.2.1)) =
      some ([.lit (.int .i64 5), .lit (.int .i64 1), .agg [.lit (.int .i64 0), .agg [.lit (.bool false), .nil], .agg [.lit (.bool false), .nil], .lit (.string []), .lit (.int .i64 0)], .agg [.lit (.int .i64 0), .agg [.lit (.bool false), .nil], .agg [.lit (.bool false), .nil], .lit (.string []), .lit (.int .i64 0)]], []) := by kernel_rfl
  obtain ⟨⟨x1, x2, x3⟩, hx, hx1⟩ := Option.map_eq_some_iff.1 hw
  simp only [Prod.mk.injEq] at hx1
  obtain ⟨rfl, rfl⟩ := hx1
  exact OpenSpec.preRow_of_cond 8 hx (by kernel_rfl) (fun k hk => by cases hk; kernel_rfl) (by kernel_rfl) (Law_met os)

set_option maxRecDepth 100000 in
set_option maxHeartbeats 2000000 in
theorem Law_lifted (os : Os) (started : os.Started) (H : Type) (enc : TypeId × Value → H) (F : Stop.Interp) :
    ReturnsInHanded {} Tryd.checked os 3 .any ((Rows.OpenSpec.upto Rows.inlineNumbersMatchOperatorsSpec).preRow enc Tryd.prog Tryd.f3 Rows.inlineNumbersMatchOperatorsUptoRow.domain false Rows.inlineNumbersMatchOperatorsUptoRow.laid) (((Rows.OpenSpec.upto Rows.inlineNumbersMatchOperatorsSpec).at F).post enc Tryd.prog Tryd.f3 false true false false) := by
  refine returnsInHanded_of_row (C := Tryd.checked) (s := Rows.OpenSpec.upto Rows.inlineNumbersMatchOperatorsSpec) Law_own started (by kernel_rfl) Tryd.func3
    (witness_row_at (enc := enc) (C := Tryd.checked) false (Law_world os) Law_arg rfl (by kernel_rfl) (by kernel_rfl) (by kernel_rfl) (Law_row os enc)) ?_
  intro W base args ds gs before hval0 hW _ hk _ hL hS _
  have hval : ∀ (j : Nat) t v, Tryd.f3.params[j]? = some t → args[j]? = some v → Value.okWide Tryd.prog W .any base t v := hval0
  have hW' := hW
  obtain ⟨p, q, hA0, hV, rfl, hfz, hnd⟩ := hW
  have hA : DataW.TrodAll enc Tryd.prog W 0 (fun _ => true) true Tryd.f3.params.toList args.toList ds p := hA0
  obtain ⟨rfl, rfl⟩ := trodVars_none hV
  have hA1 := hA
  rw [Tryd.params3] at hA hval
  obtain ⟨v0, vs0, d0, ds0, p0, q0, hargs, rfl, rfl, h0, r0⟩ := trodAll_cons hA
  obtain ⟨v1, vs1, d1, ds1, p1, q1, rfl, rfl, rfl, h1, r1⟩ := trodAll_cons r0
  obtain ⟨v2, vs2, d2, ds2, p2, q2, rfl, rfl, rfl, h2, r2⟩ := trodAll_cons r1
  obtain ⟨v3, vs3, d3, ds3, p3, q3, rfl, rfl, rfl, h3, r3⟩ := trodAll_cons r2
  obtain ⟨rfl, rfl, rfl⟩ := trodAll_nil r3
  obtain rfl : args = #[v0, v1, v2, v3] := by cases args; simp_all
  have hb : Rows.uptoBulkAll [d0, d1, d2, d3] ≤ 1048576 := by
    have := hk _ rfl
    simpa [Rows.uptoSmall] using this
  simp only [Rows.uptoBulkAll] at hb
  obtain ⟨z0, rfl, -⟩ := Int_open Tryd.underlying3 (hval 0 3 v0 rfl rfl) h0
  obtain ⟨z1, rfl, -⟩ := Int_open Tryd.underlying3 (hval 1 3 v1 rfl rfl) h1
  obtain ⟨x2, hx2, i2⟩ := Value_open (hval 2 26 v2 rfl rfl) h2
  obtain ⟨x3, hx3, i3⟩ := Value_open (hval 3 26 v3 rfl rfl) h3
  have hG := Law_glob hL hS
  refine (Law_any z0 z1 v2 v3 x2 x3 W hx2 hx3 (i2 (by omega)) (i3 (by omega)) hG).mono fun e W' ⟨he, bel⟩ => ?_
  subst he
  have hl : laidOutB Tryd.prog = true := by kernel_rfl
  have hread : Tryd.f3.params.toList.all (fun t => Tryd.prog.readableRec t && decide (t < Tryd.prog.types.size)) = true := by kernel_rfl
  refine ⟨_, rfl, [d0, d1, d2, d3], [], _, [], (p0 ++ (p1 ++ (p2 ++ (p3 ++ [])))), [], hW', ?_, ?_, ?_, bel.frame _, fun h => by cases h⟩
  · exact trodAll_mk1 (shut_bool Tryd.underlying4 _)
  · exact TrodAll_below hl bel _ _ _ _ (fun t ht => by have := List.all_eq_true.1 hread t ht; simpa using this) hA1
  · rfl

theorem Law_said : Rows.InlineNumbersMatchOperatorsUptoSaid :=
  OpenClaim.holds_of_cond 3 Tryd.f3 rfl rfl rfl rfl rfl rfl rfl ⟨rfl, rfl, rfl, rfl, rfl⟩ rfl rfl rfl rfl rfl (by kernel_rfl) Tryd.func3 (by kernel_rfl)
    (of_decide_eq_true (by kernel_rfl)) (by unfold Func.isWrapper; first | (rw [if_pos (by decide +kernel)]; kernel_rfl) | (rw [if_neg (by decide +kernel)]; exact ⟨rfl, rfl⟩))
    (fun os started H enc _ F => by rw [OpenClaim.pre_eq_preRow]; exact Law_lifted os started H enc F)

theorem Law_plain (f : FuncId) (fn : Func) (hf : Tryd.pinned.checked.prog.funcNamed "brindlewood/brindlewoodlaw7.InlineNumbersMatchOperators" = some f) (hfn : Tryd.pinned.checked.prog.funcs[f]? = some fn) :
    false = Tryd.pinned.checked.prog.looks [] ∧ ∀ (j : Nat) t, fn.params[j]? = some t → Tryd.pinned.checked.prog.wantsStandIn t = false := by
  obtain rfl : f = 3 := Option.some.inj ((show Tryd.prog.funcNamed "brindlewood/brindlewoodlaw7.InlineNumbersMatchOperators" = some 3 by kernel_rfl).symm.trans hf) |>.symm
  obtain rfl : fn = Tryd.f3 := (Option.some.inj (Tryd.func3.symm.trans hfn)).symm
  refine ⟨by kernel_rfl, fun j t ht => ?_⟩
  rw [Tryd.params3] at ht
  have hm := Array.mem_of_getElem? ht
  simp only [List.mem_toArray, List.mem_cons, List.not_mem_nil, or_false] at hm
  have wi : Tryd.prog.wantsStandIn 3 = false := by kernel_rfl
  have wv : Tryd.prog.wantsStandIn 26 = false := by kernel_rfl
  rcases hm with rfl | rfl | rfl | rfl
  · exact wi
  · exact wi
  · exact wv
  · exact wv

theorem Law_holds : Rows.InlineNumbersMatchOperatorsUptoCardSaid :=
  Claim7.holds_tied_plain_at .later [] _ _ _ _ Law_said (fun _ h => by cases h) (by kernel_rfl) (fun _ h => by cases h) inlineNumbersMatchOperatorsUpto_row_tie rfl ⟨rfl, rfl⟩ (by kernel_rfl) rfl Law_plain (by kernel_rfl)
end Go.Proofs.YtpmadgmjkljbgaaDoor
