/- Walks: Grow, Concat over []int; turned. -/
import Derived.Test.YtbickehhnkhabaaBl1
import Derived.Test.YtbickehhnkhabaaLin9
import Derived.Test.YtbickehhnkhabaaBlSpec
import Derived.Lib.AppendZerosOnto
import Derived.Laws.AppendOwnNone
namespace Go.Proofs.Ytbickehhnkhabaa
open Go.RowKit

/-- An append whose run is known. -/
theorem wpList_append_run {P : Program} {w : World} {ops : Array Oper} {rest : List Oper} {o : Oper} {a : Act} {Q : Exit → Act → World → Prop} (hgd : o.guard = none) (s x : Operand) (t tn : TypeId)
    (ho : o.op = .call { callee := .builtin .append, args := #[s, x], argTypes := #[t, tn] }) (vs vx v' : Value) (w' : World) (hs : a.eval s = vs) (hx : a.eval x = vx)
    (hrun : (Builtin.append_ #[t, tn] o.type #[vs, vx]).run P w = .ok v' w') (h : wpList P ops Q rest (a.put o.dst v') w') : wpList P ops Q (o :: rest) a w := by
  refine wpList_plain hgd fun K hK => ?_
  unfold Oper.wp
  simp [execOp, ho, resolve, invoke, builtin, hs, hx, hrun, Result.andThen]
  exact hK _ _ h

set_option maxRecDepth 100000 in
set_option maxHeartbeats 1000000 in
theorem Grow_any (n : Nat) (w : World) (h0 : 0 < n) (hn : n ≤ 1000) :
    Calls Try.prog 86 #[.slice none 0 0, .int .i64 n] w fun e w' => ∃ c, e = .returned (.slice (some ⟨w.heap.size, 0, none⟩) 0 c) ∧ w'.ownsRow w.heap.size 3 1 (.slice (some ⟨w.heap.size, 0, none⟩) 0 c) 0 [] ∧ Below w.heap.size w w' := by
  obtain ⟨i0, hi, hz0, hz1, hz2⟩ := info_parts infoInt
  have hap : ∀ ty, (Builtin.append_ #[22, 3] ty #[.slice none 0 0, .int .i64 n]).run Try.prog w = .ok (.slice (some ⟨w.heap.size, 0, none⟩) n (grownCap w n 0 3))
      (w.drew.alloc (.cells (Builtin.zeroCells (Value.int .i64 0).cells n ++ Builtin.zeroCells (Value.int .i64 0).cells (grownCap w n 0 3 - n)) 3)) := fun ty => by
    have h := Lib.run_append_grow_zeros w 22 3 ty 3 i0 (.int .i64 0) .i64 .i64 Try.underlying22 Try.underlying3 hi hz0 none 0 0 [] (run_firstCells_none _ _ _ _ _) n h0 (by omega) (by omega) (by omega) (by rw [hz2]; omega)
      (growslice_fits (by omega) (by rw [hz2]; omega))
    simpa using h
  have hge : n ≤ grownCap w n 0 3 := grownCap_ge w _ _ _
  have hle : grownCap w n 0 3 ≤ maxLen := grownCap_le_maxLen w _ _ _ (by rw [maxLen_eq']; omega)
  have hmade := World.ownsRow_made (base := w.heap.size) (e := 3) (size := 1) w.drew (Builtin.zeroCells (Value.int .i64 0).cells n ++ Builtin.zeroCells (Value.int .i64 0).cells (grownCap w n 0 3 - n)) (grownCap w n 0 3) (Nat.le_refl _) hle
    (by rw [Array.size_append, size_zeroCells, size_zeroCells]; simp [Value.cells]; omega)
  have hbel : Below w.heap.size w (w.drew.alloc (.cells (Builtin.zeroCells (Value.int .i64 0).cells n ++ Builtin.zeroCells (Value.int .i64 0).cells (grownCap w n 0 3 - n)) 3)) := (Below.refl _ w).drew.alloc (Nat.le_refl _) _
  rw [maxLen_eq'] at hle
  generalize grownCap w n 0 3 = c at *
  generalize (Builtin.zeroCells (Value.int .i64 0).cells n ++ Builtin.zeroCells (Value.int .i64 0).cells (c - n)) = zs at *
  go_enter Try.func86, Try.ntmps86
  go_wp2_with (at_builtin; refine wpList_append_run rfl _ _ 22 3 rfl _ _ _ _ rfl rfl (hap _) ?_)
  go_wp2
  go_ret
  exact ⟨c, rfl, hmade, hbel⟩

theorem total_take_succ (B : List (List Int)) (k : Nat) (h : k < B.length) : total (B.take (k + 1)) = total (B.take k) + B[k].length := by
  rw [List.take_succ_eq_append_getElem h, total_append]
  simp [total]
theorem total_take_le (B : List (List Int)) (k : Nat) : total (B.take k) ≤ total B := by
  have h : total (B.take k ++ B.drop k) = total (B.take k) + total (B.drop k) := total_append _ _
  rw [List.take_append_drop] at h
  omega
theorem flat_take_succ (B : List (List Int)) (k : Nat) (h : k < B.length) : (B.take (k + 1)).flatten = (B.take k).flatten ++ B[k] := by
  rw [List.take_succ_eq_append_getElem h, List.flatten_append, List.flatten_cons, List.flatten_nil, List.append_nil]
theorem flat_length (B : List (List Int)) : B.flatten.length = total B := by simp [total, List.length_flatten]

set_option maxRecDepth 100000 in
set_option maxHeartbeats 1000000 in
theorem Concat_any (v : Value) (vs : List Value) (B : List (List Int)) (w : World) (hrow : Row w v vs) (hl : vs.length = B.length) (hi : ∀ i (h : i < B.length), Ints w vs[i] B[i])
    (hs : ∀ i (h : i < vs.length), ∃ b o n c, vs[i] = .slice (some ⟨b, o, none⟩) n c) (h0 : 0 < total B) (h1 : total B ≤ 1000) (hB8 : B.length ≤ 1000) :
    Calls Try.prog 80 #[v] w fun e w' => ∃ v', e = .returned v' ∧ Ints w' v' B.flatten ∧ Below w.heap.size w w' ∧ ∀ k, v'.ownBlock = some k → w.heap.size ≤ k := by
  obtain ⟨a, cap, rfl, hlc, hbig, hc⟩ := hrow
  obtain ⟨i0, hii, hz0, hz1, hz2⟩ := info_parts infoInt
  have HI := Lib.hid hi
  have HC := Lib.hid hc
  have HS := Lib.hid hs
  clear hi hc hs
  go_enter Try.func80, Try.ntmps80
  go_wp2
  go_loopg [3, 11] B.length (fun q s3 s11 wr => ∃ k : Nat, k ≤ B.length ∧ B.length - k ≤ q ∧ s11 = .int .i64 k ∧ s3 = .int .i64 (total (B.take k) : Nat) ∧ wr = w)
  case atStart => exact ⟨0, Nat.zero_le _, by omega, rfl, rfl, rfl⟩
  case round =>
    obtain ⟨k, hk, hq, rfl, rfl, rfl⟩ := hrel
    by_cases hB : k < B.length
    · have hlt : k < vs.length := by omega
      obtain ⟨b, off, rfl, hcell⟩ := HC.out k hlt
      obtain ⟨ay, cy, hvy, hly, hmy, hcy⟩ := HI.out k hB
      have hT := total_take_succ B k hB
      have hle := total_take_le B (k + 1)
      rw [hvy] at hcell
      rw [hT] at hle
      have HT := Lib.hid hT
      clear hcy hvy hT
      generalize total (B.take k) = tk at *
      generalize B[k].length = ly at *
      go_wp2
      go_roundg (B.length - (k + 1))
      case measure => omega
      case rel => exact ⟨k + 1, by omega, by omega, by go_num, by rw [HT.out]; go_num, rfl⟩
    · have hk' : k = B.length := by omega
      have hT : total (B.take k) = total B := by rw [hk', List.take_of_length_le (Nat.le_refl _)]
      rw [hT]
      clear hk' hT hq hk
      have hgrow := Grow_any (total B) wr h0 h1
      obtain ⟨wo, hwo⟩ : ∃ wo : World, wo = wr := ⟨_, rfl⟩
      subst hwo
      go_wp2_with (go_at_call 86; refine hgrow.mono ?_; rintro e w1 ⟨c1, rfl, hown1, hb1⟩)
      clear hgrow
      go_loopg [6, 27] B.length (fun q s6 s27 wi => ∃ k : Nat, k ≤ B.length ∧ B.length - k ≤ q ∧ s27 = .int .i64 k ∧ wi.ownsRow wo.heap.size 3 1 s6 (B.take k).flatten.length (intVals (B.take k).flatten) ∧ Below wo.heap.size wo wi)
      case atStart => exact ⟨0, Nat.zero_le _, by omega, rfl, hown1, hb1⟩
      case round =>
        obtain ⟨k2, hk2, hq2, rfl, hown, hb⟩ := hrel
        by_cases hB2 : k2 < B.length
        · have hlt : k2 < vs.length := by omega
          obtain ⟨b, off, rfl, hcell⟩ := HC.out k2 hlt
          have hcell' : wr.cell? ⟨b, off + k2, none⟩ = some vs[k2] := by rw [hb.cell (World.block_lt_of_cell? _ _ hcell)]; exact hcell
          obtain ⟨by', oy, ny, cy, hvy⟩ := HS.out k2 hlt
          obtain ⟨ay, cy', hvy2, hly, hmy, hcy⟩ := HI.out k2 hB2
          rw [hvy] at hvy2
          simp only [Value.slice.injEq] at hvy2
          obtain ⟨rfl, rfl, rfl⟩ := hvy2
          rw [hvy] at hcell'
          have hadd : ∀ j u, (intVals B[k2])[j]? = some u → wr.cell? ((⟨by', oy, none⟩ : Addr).add j) = some u := by
            intro j u hj
            have hlt' : j < B[k2].length := by
              rcases Nat.lt_or_ge j B[k2].length with h | h
              · exact h
              · rw [List.getElem?_eq_none (by rw [intVals_length]; exact h)] at hj; cases hj
            obtain ⟨b3, o3, e3, hcell3⟩ := hcy j hlt'
            simp only [Option.some.injEq, Addr.mk.injEq, and_true] at e3
            obtain ⟨rfl, rfl⟩ := e3
            rw [List.getElem?_eq_getElem (by rw [intVals_length]; exact hlt')] at hj
            simp only [intVals, List.getElem_map, Option.some.injEq] at hj
            subst hj
            rw [show (⟨by', oy, none⟩ : Addr).add j = ⟨by', oy + j, none⟩ by unfold Addr.add; split <;> simp_all]
            rw [hb.cell (World.block_lt_of_cell? _ _ hcell3)]; exact hcell3
          have hF := flat_take_succ B k2 hB2
          have hle : (B.take k2).flatten.length + B[k2].length ≤ 1000 := by
            rw [flat_length, ← total_take_succ B k2 hB2]
            exact Nat.le_trans (total_take_le B _) h1
          have HF := Lib.hid hF
          have HA := Lib.hid hadd
          clear hF hadd hcy hcell hvy
          generalize (B.take k2).flatten = acc at *
          generalize B[k2] = y at *
          go_wp2_with (at_builtin; go_loud (refine wpList_append_own _ rfl _ _ 22 rfl wo.heap.size 3 i0 (.int .i64 0) 1 8 Try.underlying22 hii hz0 hz1 hz2 rfl (by decide) _ _ _ rfl hown ⟨by', oy, none⟩ y.length _ (intVals y) rfl ?c1 ?c2 ?c3 ?c4 ?c5 ?c6 ?_))
          case c1 => rw [intVals_length]; omega
          case c2 => exact HA.out
          case c3 => intro u hu; simp only [intVals, List.mem_map] at hu; obtain ⟨x, _, rfl⟩ := hu; rfl
          case c4 => rw [maxLen_eq']; omega
          case c5 => omega
          case c6 => exact hb.size
          intro v' w2 hown2 hgr2 _
          have hb2 : Below wo.heap.size wo w2 := hb.grown hgr2 hb.size (fun q hq => (hown.lt q hq).1)
          go_wp2
          go_roundg (B.length - (k2 + 1))
          case measure => omega
          case rel => exact ⟨k2 + 1, by omega, by omega, by go_num, own_cast hown2 (by rw [HF.out]; simp) (by rw [HF.out]; simp [intVals]), hb2⟩
        · have hk' : k2 = B.length := by omega
          have hT : Hid ((B.take k2).flatten = B.flatten) := by unfold Hid; rw [hk', List.take_of_length_le (Nat.le_refl _)]
          clear hk'
          have hres := Ints_of_own hown
          rw [hT.out] at hres
          go_wp2
          go_ret
          exact ⟨_, rfl, hres, hb, fun q hq => (hown.lt q hq).1⟩

theorem Ints.cut {w : World} {v : Value} {l : List Int} (h : Ints w v l) (h0 : 0 < l.length) {k : Nat} (hk : k ≤ l.length) :
    ∃ u1 u2, Ints w u1 (l.drop k) ∧ Ints w u2 (l.take k) ∧ (∃ b o n c, u1 = .slice (some ⟨b, o, none⟩) n c) ∧ (∃ b o n c, u2 = .slice (some ⟨b, o, none⟩) n c) ∧
      (∀ W, (Instr.slice 22 v (some (.int .i64 k)) none none).run Try.prog W = .ok u1 W) ∧ (∀ W, (Instr.slice 22 v none (some (.int .i64 k)) none).run Try.prog W = .ok u2 W) := by
  obtain ⟨i0, hi, _, hs, _⟩ := info_parts infoInt
  obtain ⟨u1, g1, _, _, r1, _⟩ := Ints.slice h (lo := k) (hi' := l.length) hk (Nat.le_refl _)
  obtain ⟨u2, g2, _, _, _, r2⟩ := Ints.slice h (lo := 0) (hi' := k) (Nat.zero_le _) hk
  have r1' := r1 rfl
  have r2' := r2 rfl
  have q1 := r1' w
  have q2 := r2' w
  obtain ⟨a, c, rfl, hl, hm, hc⟩ := h
  obtain ⟨b, off, rfl, _⟩ := hc 0 h0
  have he : Try.prog.elem 22 = 3 := by simp [Program.elem, Try.underlying22]
  have ht' : Try.prog.underlying 22 = some (.slice (Try.prog.elem 22)) := by rw [he]; exact Try.underlying22
  have hz : ∀ W, (sizeOf (Try.prog.elem 22)).run Try.prog W = .ok 1 W := by
    intro W; rw [he]; simp [sizeOf, typeInfo, hi, hs]
  rw [run_slice_l w 22 _ l.length c ht' _ _ (by omega) (by omega), hz] at q1
  rw [run_slice_h w 22 _ l.length c ht' _ _ (by omega) (by omega), hz] at q2
  simp only [Result.andThen, Result.ok.injEq, and_true] at q1 q2
  refine ⟨u1, u2, by rw [List.take_of_length_le (Nat.le_refl _)] at g1; exact g1, by simpa using g2, ?_, ?_, r1', r2'⟩
  · rw [← q1]
    simp only [sliced]
    split
    · exact ⟨_, _, _, _, rfl⟩
    · rw [Option.map_some, show ∀ o i : Nat, (⟨b, o, none⟩ : Addr).add i = ⟨b, o + i, none⟩ from fun o i => by unfold Addr.add; split <;> simp_all]; exact ⟨_, _, _, _, rfl⟩
  · rw [← q2]
    simp only [sliced]
    split
    · exact ⟨_, _, _, _, rfl⟩
    · rw [Option.map_some, show ∀ o i : Nat, (⟨b, o, none⟩ : Addr).add i = ⟨b, o + i, none⟩ from fun o i => by unfold Addr.add; split <;> simp_all]; exact ⟨_, _, _, _, rfl⟩

set_option maxRecDepth 100000 in
set_option maxHeartbeats 1000000 in
theorem turned_any (v : Value) (l : List Int) (w : World) (hv : Ints w v l) (h0 : 0 < l.length) (h1 : l.length ≤ 1000) (k : Nat) (hk : idxFrom (Lib.minOf l) l 0 = k) (hkl : k < l.length) :
    Calls Try.prog 57 #[v] w fun e w' => ∃ v', e = .returned v' ∧ Ints w' v' (turnedF l) ∧ Below w.heap.size w w' ∧ ∀ k, v'.ownBlock = some k → w.heap.size ≤ k := by
  have hT : turnedF l = l.drop k ++ l.take k := by unfold turnedF; rw [hk]; simp
  have hmin := Min_any v l w hv h0
  have hidx := Index_any v l (Lib.minOf l) w hv
  rw [hk] at hidx
  obtain ⟨u1, u2, g1, g2, s1, s2, r1, r2⟩ := Ints.cut hv h0 (k := k) (by omega)
  have hcon : ∀ W N t, Below w.heap.size w W → W.heap[N]? = some (.cells #[u1, u2] t (0, 0)) → Calls Try.prog 80 #[.slice (some ⟨N, 0, none⟩) 2 2] W fun e w' => ∃ v', e = .returned v' ∧ Ints w' v' (turnedF l) ∧ Below W.heap.size W w' ∧ ∀ k, v'.ownBlock = some k → W.heap.size ≤ k := by
    intro W N t hW hN
    obtain ⟨b1, b2, _, _⟩ := box2 hN
    have h := Concat_any (.slice (some ⟨N, 0, none⟩) 2 2) [u1, u2] [l.drop k, l.take k] W ⟨_, _, rfl, by simp, by simp, fun j hj => ?_⟩ rfl (fun j hj => ?_) (fun j hj => ?_) (by simp [total]; omega) (by simp [total]; omega) (by simp)
    · rw [hT]
      refine h.mono ?_
      rintro e w' ⟨v', rfl, h1, h2, h3⟩
      exact ⟨v', rfl, by simpa using h1, h2, h3⟩
    · have : j = 0 ∨ j = 1 := by simp at hj; omega
      rcases this with rfl | rfl
      · exact ⟨N, 0, rfl, by simpa using b1⟩
      · exact ⟨N, 0, rfl, by simpa using b2⟩
    · have : j = 0 ∨ j = 1 := by simp at hj; omega
      rcases this with rfl | rfl
      · exact g1.below hW
      · exact g2.below hW
    · have : j = 0 ∨ j = 1 := by simp at hj; omega
      rcases this with rfl | rfl
      · exact s1
      · exact s2
  have HT := Lib.hid hT
  have HCON := Lib.hid hcon
  clear hT hcon g1 g2 hk
  obtain ⟨b1, o1, n1, c1, rfl⟩ := s1
  obtain ⟨b2, o2, n2, c2, rfl⟩ := s2
  generalize Lib.minOf l = z at *
  generalize turnedF l = tl at *
  go_enter Try.func57, Try.ntmps57
  go_wp2_with (first | (go_at_call 79; refine hmin.mono ?_; rintro e w1 ⟨rfl, rfl⟩) | (go_at_call 10; refine hidx.mono ?_; rintro e w1 ⟨rfl, rfl⟩))
  refine wp_region_any (by kernel_rfl) ?_
  refine wpAny_take (i := 0) (v := ?vv0) rfl (by kernel_rfl) (by kernel_rfl) (by kernel_rfl) (fun _ _ _ h => h) (Or.inl ⟨by rfl, ?hy0⟩) ?rest0
  case hy0 => (intro w; go_simp; with_reducible rfl)
  refine wpAny_take (i := 1) (v := ?vv1) rfl (by kernel_rfl) (by kernel_rfl) (by kernel_rfl) (fun _ _ _ h => h) (Or.inl ⟨by rfl, ?hy1⟩) ?rest1
  case hy1 => (intro w; go_simp; with_reducible rfl)
  refine wpAny_take (i := 2) (v := ?vv2) rfl (by kernel_rfl) (by kernel_rfl) (by kernel_rfl) (fun _ _ _ h => h) (Or.inl ⟨by rfl, ?hy2⟩) ?rest2
  case hy2 => (intro w; go_simp; with_reducible rfl)
  refine wpAny_take (i := 3) (v := ?vv3) rfl (by kernel_rfl) (by kernel_rfl) (by kernel_rfl) (fun _ _ _ h => h) (Or.inl ⟨by rfl, ?hy3⟩) ?rest3
  case hy3 => (intro w; go_simp; with_reducible rfl)
  refine wpAny_take (i := 4) (v := ?vv4) rfl (by kernel_rfl) (by kernel_rfl) (by kernel_rfl) (fun _ _ _ h => h) (Or.inl ⟨by rfl, ?hy4⟩) ?rest4
  case hy4 => (intro w; go_simp; with_reducible rfl)
  refine wpAny_take (i := 5) (v := ?vv5) rfl (by kernel_rfl) (by kernel_rfl) (by kernel_rfl) (fun _ _ _ h => h) (Or.inl ⟨by rfl, ?hy5⟩) ?rest5
  case hy5 => (intro w; go_simp; with_reducible rfl)
  refine wpAny_ready (rs := [6]) (by kernel_rfl) (by simp) ?_
  refine AllReady.cons rfl (fun K hK => ?_) AllReady.nil
  go_simp
  refine hK _ _ ?_
  clear hK K
  refine wpAny_ready (rs := [7]) (by kernel_rfl) (by simp) ?_
  refine AllReady.cons rfl (fun K hK => ?_) AllReady.nil
  go_simp
  refine (HCON.out (w.alloc (.cells #[.slice (some ⟨b1, o1, none⟩) n1 c1, .slice (some ⟨b2, o2, none⟩) n2 c2] 22)).drew _ _ (ext_alloc w _).drew (heap_new w _)).mono ?_
  rintro e w1 ⟨v', rfl, hres, hb1, hob⟩
  have hbw : Below w.heap.size w w1 := ext_trans (ext_alloc w _).drew hb1
  refine hK _ _ ?_
  clear hK K
  refine wpAny_ready (rs := [8]) (by kernel_rfl) (by simp) ?_
  refine AllReady.cons rfl (fun K hK => ?_) AllReady.nil
  go_simp
  refine hK _ _ ?_
  clear hK K
  refine wpAny_done (by kernel_rfl) ?_ _
  go_wp2
  go_ret
  exact ⟨v', rfl, hres, hbw, fun q hq => by have := hob q hq; simp at this; omega⟩
end Go.Proofs.Ytbickehhnkhabaa
