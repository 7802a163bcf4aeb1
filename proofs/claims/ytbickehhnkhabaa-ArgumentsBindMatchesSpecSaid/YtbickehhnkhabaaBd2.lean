/- Walks: Grow, Clone, Concat over values. -/
import Derived.Test.YtbickehhnkhabaaBd1
import Derived.Test.YtbickehhnkhabaaTypes
import Derived.Lib.AppendZerosOnto
import Derived.Laws.AppendOwnNone
namespace Go.Proofs.Ytbickehhnkhabaa
open Go.RowKit

/-- An append whose run is known. -/
theorem wpList_append_runB {P : Program} {w : World} {ops : Array Oper} {rest : List Oper} {o : Oper} {a : Act} {Q : Exit → Act → World → Prop} (hgd : o.guard = none) (s x : Operand) (t tn : TypeId)
    (ho : o.op = .call { callee := .builtin .append, args := #[s, x], argTypes := #[t, tn] }) (vs vx v' : Value) (w' : World) (hs : a.eval s = vs) (hx : a.eval x = vx)
    (hrun : (Builtin.append_ #[t, tn] o.type #[vs, vx]).run P w = .ok v' w') (h : wpList P ops Q rest (a.put o.dst v') w') : wpList P ops Q (o :: rest) a w := by
  refine wpList_plain hgd fun K hK => ?_
  unfold Oper.wp
  simp [execOp, ho, resolve, invoke, builtin, hs, hx, hrun, Result.andThen]
  exact hK _ _ h

theorem infoVal : (Try.prog.info? 58).map (fun i => (i.zero, i.size, i.bytes)) = some (some (.agg #[.int .i64 0, .bool false, .slice none 0 0, .bool false, .slice none 0 0, .string ⟨#[]⟩, .int .i64 0]), 7, 96) := by kernel_rfl
theorem infoStr : (Try.prog.info? 9).map (fun i => (i.zero, i.size, i.bytes)) = some (some (.string ⟨#[]⟩), 1, 16) := by kernel_rfl

def totalB (B : List (Nat × List Value)) : Nat := (B.map Prod.fst).sum
theorem totalB_succ (B : List (Nat × List Value)) (k : Nat) (h : k < B.length) : totalB (B.take (k + 1)) = totalB (B.take k) + B[k].1 := by
  unfold totalB
  rw [List.take_succ_eq_append_getElem h, List.map_append, List.sum_append]; simp
theorem totalB_le (B : List (Nat × List Value)) (k : Nat) : totalB (B.take k) ≤ totalB B := by
  unfold totalB
  have h : ((B.take k ++ B.drop k).map Prod.fst).sum = ((B.take k).map Prod.fst).sum + ((B.drop k).map Prod.fst).sum := by rw [List.map_append, List.sum_append]
  rw [List.take_append_drop] at h
  omega
theorem flatB_succ (B : List (Nat × List Value)) (k : Nat) (h : k < B.length) : (B.take (k + 1)).flatMap Prod.snd = (B.take k).flatMap Prod.snd ++ B[k].2 := by
  rw [List.take_succ_eq_append_getElem h, List.flatMap_append]; simp

set_option maxRecDepth 100000 in
set_option maxHeartbeats 1000000 in
theorem GrowV_any (n : Nat) (w : World) (hn : n ≤ 1000) :
    Calls Try.prog 54 #[.slice none 0 0, .int .i64 n] w fun e w' => ∃ v', e = .returned v' ∧ w'.ownsRow w.heap.size 58 7 v' 0 [] ∧ Below w.heap.size w w' := by
  rcases Nat.eq_zero_or_pos n with rfl | h0
  · go_enter Try.func54, Try.ntmps54
    go_wp2
    go_ret
    exact ⟨_, rfl, World.ownsRow_nil _ _ _ _, Below.refl _ _⟩
  obtain ⟨i0, hi, hz0, hz1, hz2⟩ := info_parts infoVal
  have hap : ∀ ty, (Builtin.append_ #[36, 3] ty #[.slice none 0 0, .int .i64 n]).run Try.prog w = .ok (.slice (some ⟨w.heap.size, 0, none⟩) n (grownCap w n 0 58))
      (w.drew.alloc (.cells (Builtin.zeroCells (Value.agg #[.int .i64 0, .bool false, .slice none 0 0, .bool false, .slice none 0 0, .string ⟨#[]⟩, .int .i64 0]).cells n ++ Builtin.zeroCells (Value.agg #[.int .i64 0, .bool false, .slice none 0 0, .bool false, .slice none 0 0, .string ⟨#[]⟩, .int .i64 0]).cells (grownCap w n 0 58 - n)) 58)) := fun ty => by
    have h := Lib.run_append_grow_zeros w 36 3 ty 58 i0 (Value.agg #[.int .i64 0, .bool false, .slice none 0 0, .bool false, .slice none 0 0, .string ⟨#[]⟩, .int .i64 0]) .i64 .i64 Try.underlying36 Try.underlying3 hi hz0 none 0 0 [] (run_firstCells_none _ _ _ _ _) n h0 (by rw [hz1]; decide) (by omega) (by omega) (by rw [hz2]; omega)
      (growslice_fits (by omega) (by rw [hz2]; omega))
    simpa using h
  have hge : n ≤ grownCap w n 0 58 := grownCap_ge w _ _ _
  have hle : grownCap w n 0 58 ≤ maxLen := grownCap_le_maxLen w _ _ _ (by rw [maxLen_eq']; omega)
  have hmade := World.ownsRow_made (base := w.heap.size) (e := 58) (size := 7) w.drew (Builtin.zeroCells (Value.agg #[.int .i64 0, .bool false, .slice none 0 0, .bool false, .slice none 0 0, .string ⟨#[]⟩, .int .i64 0]).cells n ++ Builtin.zeroCells (Value.agg #[.int .i64 0, .bool false, .slice none 0 0, .bool false, .slice none 0 0, .string ⟨#[]⟩, .int .i64 0]).cells (grownCap w n 0 58 - n)) (grownCap w n 0 58) (Nat.le_refl _) hle
    (by rw [Array.size_append, size_zeroCells, size_zeroCells, show (Value.agg #[.int .i64 0, .bool false, .slice none 0 0, .bool false, .slice none 0 0, .string ⟨#[]⟩, .int .i64 0]).cells.size = 7 from rfl, ← Nat.add_mul]; congr 1; omega)
  have hbel : Below w.heap.size w (w.drew.alloc (.cells (Builtin.zeroCells (Value.agg #[.int .i64 0, .bool false, .slice none 0 0, .bool false, .slice none 0 0, .string ⟨#[]⟩, .int .i64 0]).cells n ++ Builtin.zeroCells (Value.agg #[.int .i64 0, .bool false, .slice none 0 0, .bool false, .slice none 0 0, .string ⟨#[]⟩, .int .i64 0]).cells (grownCap w n 0 58 - n)) 58)) := (Below.refl _ w).drew.alloc (Nat.le_refl _) _
  rw [maxLen_eq'] at hle
  generalize grownCap w n 0 58 = c at *
  generalize (Builtin.zeroCells (Value.agg #[.int .i64 0, .bool false, .slice none 0 0, .bool false, .slice none 0 0, .string ⟨#[]⟩, .int .i64 0]).cells n ++ Builtin.zeroCells (Value.agg #[.int .i64 0, .bool false, .slice none 0 0, .bool false, .slice none 0 0, .string ⟨#[]⟩, .int .i64 0]).cells (c - n)) = zs at *
  go_enter Try.func54, Try.ntmps54
  go_wp2_with (at_builtin; refine wpList_append_runB rfl _ _ 36 3 rfl _ _ _ _ rfl rfl (hap _) ?_)
  go_wp2
  go_ret
  exact ⟨_, rfl, hmade, hbel⟩

set_option maxRecDepth 100000 in
set_option maxHeartbeats 1000000 in
theorem CloneV_any (v : Value) (n : Nat) (cs : List Value) (w : World) (hv : RowS 7 w v n cs) (h1 : ∀ u ∈ cs, u.oneCell' = true) (hbig : n ≤ 1000) :
    Calls Try.prog 26 #[v] w fun e w' => ∃ v', e = .returned v' ∧ w'.ownsRow w.heap.size 58 7 v' n cs ∧ Below w.heap.size w w' := by
  obtain ⟨a, c, rfl⟩ := hv.isSlice
  have q22 : ∀ (w : World) (a : Option Addr) (n c n' c' : Nat), (binOp .eql 36 (.slice a n c) (.slice none n' c')).run Try.prog w = .ok (.bool a.isNone) w := fun w a n c n' c' => Lib.run_eql_slice_nil w _ _ a n c n' c' Try.underlying36
  cases a with
  | none =>
    have h0 : n = 0 := by
      obtain ⟨a', c', e, hle, ⟨_, hc⟩, _⟩ := hv
      simp only [Value.slice.injEq, true_and] at e
      obtain ⟨rfl, rfl⟩ := e
      have := hc rfl; omega
    subst h0
    have hcs : cs = [] := List.eq_nil_of_length_eq_zero (by have := hv; obtain ⟨_, _, _, _, _, h, _⟩ := this; simpa using h)
    subst hcs
    go_enter Try.func26, Try.ntmps26
    go_wp2
    go_ret
    exact ⟨_, rfl, World.ownsRow_nil _ _ _ _, Below.refl _ _⟩
  | some ad =>
    have hsrc := hv.src
    have hlen : cs.length = n * 7 := by obtain ⟨_, _, _, _, _, h, _⟩ := hv; exact h
    have A := Lib.hid hsrc
    have L := Lib.hid hlen
    obtain ⟨i0, hi, hz0, hz1, hz2⟩ := info_parts infoVal
    clear hsrc hv hlen
    go_enter Try.func26, Try.ntmps26
    go_wp2_with (at_builtin; refine wpList_append_own _ rfl _ _ 36 rfl w.heap.size 58 i0 (Value.agg #[.int .i64 0, .bool false, .slice none 0 0, .bool false, .slice none 0 0, .string ⟨#[]⟩, .int .i64 0]) 7 96 Try.underlying36 hi hz0 hz1 hz2 rfl (by decide) _ _ _ rfl (World.ownsRow_made w #[] 0 (Nat.le_refl _) (Nat.zero_le _) (by simp)) ad n c cs rfl ?qc1 ?qc2 ?qc3 ?qc4 ?qc5 ?qc6 ?_)
    case qc1 => exact L.out
    case qc2 =>
      intro j u hj
      exact Lib.cell?_alloc_some _ (A.out j u hj)
    case qc3 => exact h1
    case qc4 => rw [Nat.zero_add, maxLen_eq']; omega
    case qc5 => rw [Nat.zero_add]; omega
    case qc6 => simp
    intro v' w1 hown hgrow hnil
    go_wp2
    go_ret
    refine ⟨v', rfl, by simpa using hown, ?_⟩
    exact ((Below.refl _ w).alloc (Nat.le_refl _) _).grown hgrow (by simp) (by intro k hk; simp [Value.ownBlock] at hk; omega)

set_option maxRecDepth 100000 in
set_option maxHeartbeats 1000000 in
theorem ConcatV_any (v : Value) (vs : List Value) (B : List (Nat × List Value)) (w : World) (hrow : Row w v vs) (hl : vs.length = B.length) (hi : ∀ i (h : i < B.length), RowS 7 w vs[i] B[i].1 B[i].2)
    (h1 : totalB B ≤ 1000) (hone : ∀ x ∈ B, ∀ u ∈ x.2, u.oneCell' = true) :
    Calls Try.prog 23 #[v] w fun e w' => ∃ v', e = .returned v' ∧ w'.ownsRow w.heap.size 58 7 v' (totalB B) (B.flatMap Prod.snd) ∧ Below w.heap.size w w' := by
  obtain ⟨a, cap, rfl, hlc, hbig, hc⟩ := hrow
  obtain ⟨i0, hii, hz0, hz1, hz2⟩ := info_parts infoVal
  have HI := Lib.hid hi
  have HC := Lib.hid hc
  have HO := Lib.hid hone
  clear hi hc hone
  go_enter Try.func23, Try.ntmps23
  go_wp2
  go_loopg [3, 11] B.length (fun q s3 s11 wr => ∃ k : Nat, k ≤ B.length ∧ B.length - k ≤ q ∧ s11 = .int .i64 k ∧ s3 = .int .i64 (totalB (B.take k) : Nat) ∧ wr = w)
  case atStart => exact ⟨0, Nat.zero_le _, by omega, rfl, rfl, rfl⟩
  case round =>
    obtain ⟨k, hk, hq, rfl, rfl, rfl⟩ := hrel
    by_cases hB : k < B.length
    · have hlt : k < vs.length := by omega
      obtain ⟨b, off, rfl, hcell⟩ := HC.out k hlt
      obtain ⟨ay, cy, hvy⟩ := (HI.out k hB).isSlice
      have hT := totalB_succ B k hB
      have hle := totalB_le B (k + 1)
      rw [hvy] at hcell
      rw [hT] at hle
      have HT := Lib.hid hT
      clear hvy hT
      generalize totalB (B.take k) = tk at *
      generalize B[k].1 = ly at *
      go_wp2
      go_roundg (B.length - (k + 1))
      case measure => omega
      case rel => exact ⟨k + 1, by omega, by omega, by go_num, by rw [HT.out]; go_num, rfl⟩
    · have hk' : k = B.length := by omega
      have hT : totalB (B.take k) = totalB B := by rw [hk', List.take_of_length_le (Nat.le_refl _)]
      rw [hT]
      clear hk' hT hq hk
      have hgrow := GrowV_any (totalB B) wr h1
      obtain ⟨wo, hwo⟩ : ∃ wo : World, wo = wr := ⟨_, rfl⟩
      subst hwo
      go_wp2_with (go_at_call 54; refine hgrow.mono ?_; rintro e w1 ⟨c1, rfl, hown1, hb1⟩)
      clear hgrow
      go_loopg [6, 27] B.length (fun q s6 s27 wi => ∃ k : Nat, k ≤ B.length ∧ B.length - k ≤ q ∧ s27 = .int .i64 k ∧ wi.ownsRow wo.heap.size 58 7 s6 (totalB (B.take k)) ((B.take k).flatMap Prod.snd) ∧ Below wo.heap.size wo wi)
      case atStart => exact ⟨0, Nat.zero_le _, by omega, rfl, hown1, hb1⟩
      case round =>
        obtain ⟨k2, hk2, hq2, rfl, hown, hb⟩ := hrel
        by_cases hB2 : k2 < B.length
        · have hlt : k2 < vs.length := by omega
          obtain ⟨b, off, rfl, hcell⟩ := HC.out k2 hlt
          have hcell' : wr.cell? ⟨b, off + k2, none⟩ = some vs[k2] := by rw [hb.cell (World.block_lt_of_cell? _ _ hcell)]; exact hcell
          have hrow := (HI.out k2 hB2).below hb
          obtain ⟨ay, cy, hvy⟩ := hrow.isSlice
          rw [hvy] at hrow hcell'
          have hlen : B[k2].2.length = B[k2].1 * 7 := by obtain ⟨_, _, _, _, _, h, _⟩ := hrow; exact h
          have hT := totalB_succ B k2 hB2
          have hF := flatB_succ B k2 hB2
          have hle : totalB (B.take k2) + B[k2].1 ≤ 1000 := by
            rw [← hT]
            exact Nat.le_trans (totalB_le B _) h1
          have hone2 := HO.out B[k2] (List.getElem_mem hB2)
          have HL := Lib.hid hlen
          have HF := Lib.hid hF
          have HT := Lib.hid hT
          have HONE := Lib.hid hone2
          clear hF hT hlen hcell hvy hone2
          cases ay with
          | none =>
            have h0 : B[k2].1 = 0 ∧ cy = 0 := by
              obtain ⟨a', c', e, hle, ⟨_, hc⟩, _⟩ := hrow
              simp only [Value.slice.injEq, true_and] at e
              obtain ⟨rfl, rfl⟩ := e
              have := hc rfl; omega
            obtain ⟨h01, rfl⟩ := h0
            have H0 := Lib.hid h01
            rw [h01] at hcell'
            clear h01 hrow
            generalize totalB (B.take k2) = tk at *
            generalize (B.take k2).flatMap Prod.snd = acc at *
            go_wp2_with (at_builtin; refine wpList_append_own_none rfl _ _ 36 rfl wo.heap.size 58 i0 7 Try.underlying36 hii _ _ _ rfl hown rfl ?_)
            go_wp2
            go_roundg (B.length - (k2 + 1))
            case measure => omega
            case rel =>
              refine ⟨k2 + 1, by omega, by omega, by go_num, own_cast hown (by rw [HT.out, H0.out, Nat.add_zero]) ?_, hb⟩
              rw [HF.out]
              have : B[k2].2 = [] := List.eq_nil_of_length_eq_zero (by rw [HL.out, H0.out, Nat.zero_mul])
              rw [this, List.append_nil]
          | some ad =>
            have hsrc := hrow.src
            have HA := Lib.hid hsrc
            clear hsrc hrow
            generalize totalB (B.take k2) = tk at *
            generalize (B.take k2).flatMap Prod.snd = acc at *
            generalize B[k2].1 = m at *
            generalize B[k2].2 = ns at *
            go_wp2_with (at_builtin; refine wpList_append_own _ rfl _ _ 36 rfl wo.heap.size 58 i0 (Value.agg #[.int .i64 0, .bool false, .slice none 0 0, .bool false, .slice none 0 0, .string ⟨#[]⟩, .int .i64 0]) 7 96 Try.underlying36 hii hz0 hz1 hz2 rfl (by decide) _ _ _ rfl hown ad m cy ns rfl ?c1 ?c2 ?c3 ?c4 ?c5 ?c6 ?_)
            case c1 => exact HL.out
            case c2 => exact HA.out
            case c3 => exact HONE.out
            case c4 => rw [maxLen_eq']; omega
            case c5 => omega
            case c6 => exact hb.size
            intro v' w2 hown2 hgr2 _
            have hb2 : Below wo.heap.size wo w2 := hb.grown hgr2 hb.size (fun q hq => (hown.lt q hq).1)
            go_wp2
            go_roundg (B.length - (k2 + 1))
            case measure => omega
            case rel => exact ⟨k2 + 1, by omega, by omega, by go_num, own_cast hown2 (by rw [HT.out]) (by rw [HF.out]), hb2⟩
        · have hk' : k2 = B.length := by omega
          have hT : (B.take k2).flatMap Prod.snd = B.flatMap Prod.snd := by rw [hk', List.take_of_length_le (Nat.le_refl _)]
          have hT2 : totalB (B.take k2) = totalB B := by rw [hk', List.take_of_length_le (Nat.le_refl _)]
          rw [hT, hT2] at hown
          clear hk' hT hT2
          go_wp2
          go_ret
          exact ⟨_, rfl, hown, hb⟩

end Go.Proofs.Ytbickehhnkhabaa
