/- Parameters as they lie in memory; walks: Check$1, the search for a parameter of the same name. -/
import Derived.Test.YtbickehhnkhabaaArg2
namespace Go.Proofs.Ytbickehhnkhabaa
open Go.RowKit

/-- A parameter as Check looks at it: its kind, its name, how many defaults it has. -/
structure Par where
  k : Int
  s : ByteArray
  n : Nat

/-- A slice of parameters in memory: three cells each. -/
def ParamsAt (w : World) (v : Value) (ps : List Par) : Prop :=
  ∃ a cap, v = .slice a ps.length cap ∧ ps.length ≤ cap ∧ cap ≤ 9223372036854775807 ∧
    ∀ i (h : i < ps.length), ∃ b off da dc, a = some ⟨b, off, none⟩ ∧ w.cell? ⟨b, off + i * 3, none⟩ = some (.int .i64 ps[i].k) ∧
      w.cell? ⟨b, off + i * 3 + 1, none⟩ = some (.string ps[i].s) ∧ w.cell? ⟨b, off + i * 3 + 2, none⟩ = some (.slice da ps[i].n dc)

theorem ParamsAt.below {w w' : World} {v : Value} {ps : List Par} (h : ParamsAt w v ps) (hb : Below w.heap.size w w') : ParamsAt w' v ps := by
  obtain ⟨a, cap, rfl, hl, hm, hc⟩ := h
  refine ⟨a, cap, rfl, hl, hm, fun i hi => ?_⟩
  obtain ⟨b, off, da, dc, rfl, h1, h2, h3⟩ := hc i hi
  exact ⟨b, off, da, dc, rfl, by rw [hb.cell (World.block_lt_of_cell? _ _ h1)]; exact h1, by rw [hb.cell (World.block_lt_of_cell? _ _ h2)]; exact h2, by rw [hb.cell (World.block_lt_of_cell? _ _ h3)]; exact h3⟩

theorem infoParam : (Try.prog.info? 51).map (fun i => i.size) = some 3 := by kernel_rfl

theorem ParamsAt.take {w : World} {v : Value} {ps : List Par} (h : ParamsAt w v ps) {k : Nat} (hk : k ≤ ps.length) :
    ∃ u, ParamsAt w u (ps.take k) ∧ ∀ W, (Instr.slice 25 v none (some (.int .i64 k)) none).run Try.prog W = .ok u W := by
  obtain ⟨a, cap, rfl, hl, hm, hc⟩ := h
  have he : Try.prog.elem 25 = 51 := by simp [Program.elem, Try.underlying25]
  have ht' : Try.prog.underlying 25 = some (.slice (Try.prog.elem 25)) := by rw [he]; exact Try.underlying25
  have hz : ∀ W, (sizeOf (Try.prog.elem 25)).run Try.prog W = .ok 3 W := by
    intro W; rw [he]
    have hi := infoParam
    cases h : Try.prog.info? 51 with
    | none => rw [h] at hi; simp at hi
    | some i => rw [h] at hi; simp at hi; simp [sizeOf, typeInfo, h, hi]
  refine ⟨sliced a 0 k cap 3, ?_, fun W => ?_⟩
  · refine ⟨if cap = 0 then a else a.map (·.add (0 * 3)), cap - 0, by simp [sliced]; omega, by simp; omega, by omega, fun i hi => ?_⟩
    have hi' : i < k ∧ i < ps.length := by simp at hi; omega
    obtain ⟨b, off, da, dc, rfl, h1, h2, h3⟩ := hc i hi'.2
    refine ⟨b, off, da, dc, ?_, by simpa using h1, by simpa using h2, by simpa using h3⟩
    rw [if_neg (by omega)]
    simp [Addr.add]
  · rw [run_slice_h W 25 a ps.length cap ht' _ _ (by omega) (by omega), hz]
    simp [Result.andThen]

/-- The value of a parameter. -/
def parV (p : Par) (da : Option Addr) (dc : Nat) : Value := .agg #[.int .i64 p.k, .string p.s, .slice da p.n dc]

set_option maxHeartbeats 1000000 in
theorem sameName_any (q : Par) (da : Option Addr) (dc : Nat) (s : ByteArray) (c : Nat) (w : World) (hc : w.cell? ⟨c, 1, none⟩ = some (.string s)) :
    Calls Try.prog 33 #[parV q da dc, .pointer (some ⟨c, 0, none⟩)] w fun e w' => e = .returned (.bool (q.s.toList == s.toList)) ∧ Below w.heap.size w w' := by
  unfold parV
  have hb := ext_alloc w (.cells #[.int .i64 q.k, .string q.s, .slice da q.n dc] 51)
  have hc2 : (w.alloc (.cells #[.int .i64 q.k, .string q.s, .slice da q.n dc] 51)).cell? ⟨c, 1, none⟩ = some (.string s) := by rw [hb.cell (p := ⟨c, 1, none⟩) (World.block_lt_of_cell? _ _ hc)]; exact hc
  go_enter Try.func33, Try.ntmps33
  go_wp2
  go_ret
  exact ⟨rfl, hb⟩

set_option maxRecDepth 100000 in
set_option maxHeartbeats 1000000 in
theorem IndexFuncP_any (v : Value) (ps : List Par) (s : ByteArray) (c : Nat) (w : World) (hv : ParamsAt w v ps) (hc : w.cell? ⟨c, 1, none⟩ = some (.string s)) :
    Calls Try.prog 63 #[v, .func (.func 33) #[] #[.pointer (some ⟨c, 0, none⟩)]] w fun e w' =>
      e = .returned (.int .i64 (firstFrom (fun i => ((ps.map Par.s).getD i s).toList == s.toList) ps.length 0)) ∧ Below w.heap.size w w' := by
  obtain ⟨a, cap, rfl, hl, hm, hcs⟩ := hv
  have HC := Lib.hid hcs
  have eg := enters_of Try.func33 (by kernel_rfl) rfl
  clear hcs
  go_enter Try.func63, Try.ntmps63
  go_wp2
  go_loopg [8] ps.length (fun q s8 wr => ∃ k : Nat, k ≤ ps.length ∧ ps.length - k ≤ q ∧ s8 = .int .i64 k ∧ Below w.heap.size w wr ∧ Hid (firstFrom (fun i => ((ps.map Par.s).getD i s).toList == s.toList) ps.length 0 = firstFrom (fun i => ((ps.map Par.s).getD i s).toList == s.toList) ps.length k))
  case atStart => exact ⟨0, Nat.zero_le _, by omega, rfl, Below.refl _ _, rfl⟩
  case round =>
    obtain ⟨k, hk, hq, rfl, hb, hi⟩ := hrel
    by_cases hlt : k < ps.length
    · obtain ⟨b, off, da, dc, rfl, z0, z1, z2⟩ := HC.out k hlt
      rw [← hb.cell (p := ⟨b, off + k * 3, none⟩) (World.block_lt_of_cell? _ _ z0)] at z0
      rw [← hb.cell (p := ⟨b, off + k * 3 + 1, none⟩) (World.block_lt_of_cell? _ _ z1)] at z1
      rw [← hb.cell (p := ⟨b, off + k * 3 + 2, none⟩) (World.block_lt_of_cell? _ _ z2)] at z2
      have hcall := sameName_any ps[k] da dc s c wr (by rw [hb.cell (p := ⟨c, 1, none⟩) (World.block_lt_of_cell? _ _ hc)]; exact hc)
      have hpk : (((ps.map Par.s).getD k s).toList == s.toList) = (ps[k].s.toList == s.toList) := by simp [List.getD, hlt]
      have hyes := Lib.hid (fun h => firstFrom_yes (p := fun i => ((ps.map Par.s).getD i s).toList == s.toList) hlt (by rw [hpk]; exact h))
      have hno := Lib.hid (fun h => firstFrom_no (p := fun i => ((ps.map Par.s).getD i s).toList == s.toList) hlt (by rw [hpk]; exact h))
      unfold parV at hcall
      clear hpk
      generalize ps[k].k = pk at *
      generalize ps[k].n = pn at *
      cases hq2 : (ps[k].s.toList == s.toList) with
      | true =>
        rw [hq2] at hcall
        have HY := Lib.hid (hyes.out hq2)
        clear hq2 hyes hno
        generalize ps[k].s = nm at *
        go_wp2_with fail
        refine hcall.mono ?_
        rintro e w' ⟨rfl, hb'⟩
        go_wp2
        go_ret
        exact ⟨ret_int (by rw [hi.out, HY.out]), ext_trans hb hb'⟩
      | false =>
        rw [hq2] at hcall
        have HN := Lib.hid (hno.out hq2)
        clear hq2 hyes hno
        generalize ps[k].s = nm at *
        go_wp2_with fail
        refine hcall.mono ?_
        rintro e w' ⟨rfl, hb'⟩
        go_wp2
        go_roundg (ps.length - (k + 1))
        case measure => omega
        case rel => exact ⟨k + 1, by omega, by omega, by go_num, ext_trans hb hb', by unfold Hid; rw [hi.out, HN.out]⟩
    · go_wp2
      go_ret
      exact ⟨ret_int (by rw [hi.out, firstFrom_end hlt]), hb⟩

/-- Has one of the parameters the name s? -/
def hasName (ps : List Par) (s : ByteArray) : Bool := ps.any fun q => q.s.toList == s.toList

set_option maxHeartbeats 1000000 in
theorem ContainsFuncP_any (v : Value) (ps : List Par) (s : ByteArray) (c : Nat) (w : World) (hv : ParamsAt w v ps) (hc : w.cell? ⟨c, 1, none⟩ = some (.string s)) :
    Calls Try.prog 32 #[v, .func (.func 33) #[] #[.pointer (some ⟨c, 0, none⟩)]] w fun e w' =>
      e = .returned (.bool (hasName ps s)) ∧ Below w.heap.size w w' := by
  have h := IndexFuncP_any v ps s c w hv hc
  have hany : Hid (decide (0 ≤ firstFrom (fun i => ((ps.map Par.s).getD i s).toList == s.toList) ps.length 0) = hasName ps s) := firstFrom_any ps _ (fun q => q.s.toList == s.toList) (fun i hi => by simp [List.getD, hi])
  generalize firstFrom (fun i => ((ps.map Par.s).getD i s).toList == s.toList) ps.length 0 = z at *
  go_enter Try.func32, Try.ntmps32
  go_wp2_with (go_at_call 63; refine h.mono ?_; rintro e w' ⟨rfl, hb⟩)
  go_ret
  exact ⟨ret_bool hany.out, hb⟩

theorem afault_any (c i : Int) (w : World) :
    Calls Try.prog 30 #[.int .i64 c, .int .i64 i] w fun e w' => e = .returned (faultV c i) ∧ Below w.heap.size w w' := by
  go_enter Try.func30, Try.ntmps30
  go_wp2
  exact bodyPost_ret (v := faultV c i) (by simp [results, Try.results30, go_sem, faultV]) rfl ⟨rfl, ext_alloc _ _⟩
end Go.Proofs.Ytbickehhnkhabaa
