/- Walks: lists. -/
import Derived.Test.YtbickehhnkhabaaLin4
namespace Go.Proofs.Ytbickehhnkhabaa
open Go.RowKit

/-- The rows of an owned slice of slices: each reads as its list, and none lies in block g. -/
def Elems (w : World) (g : Nat) (cs : List Value) (B : List (List Int)) : Prop :=
  ∃ _ : cs.length = B.length, ∀ i (h : i < B.length), Ints w cs[i] B[i] ∧ cs[i].ownBlock ≠ some g

def headVals (B : List (List Int)) (k : Nat) : List Value := ((B.take k).map headI).map (Value.int .i64)
theorem headVals_succ (B : List (List Int)) (k : Nat) (h : k < B.length) : headVals B (k + 1) = headVals B k ++ [.int .i64 (headI B[k])] := by
  unfold headVals
  rw [List.take_succ_eq_append_getElem h, List.map_append, List.map_append]; rfl

set_option maxRecDepth 100000 in
set_option maxHeartbeats 1000000 in
theorem lists_any (v : Value) (B : List (List Int)) (w : World) (hv : IntRows w v B) (hne : ∀ y ∈ B, y ≠ []) (h8 : B.length ≤ 8) :
    Calls Try.prog 38 #[v] w fun e w' => ∃ g cap cs, e = .returned (.slice (some ⟨g, 0, none⟩) (B.length + 1) cap) ∧ w.heap.size ≤ g ∧
      w'.ownsRow w.heap.size 22 1 (.slice (some ⟨g, 0, none⟩) (B.length + 1) cap) (B.length + 1) cs ∧ Elems w' g cs (B ++ [B.map headI]) ∧ Below w.heap.size w w' := by
  obtain ⟨vs, hl, hrow, hi⟩ := hv
  have hone : ∀ u ∈ vs, u.oneCell' = true := by
    intro u hu
    obtain ⟨i, hi', rfl⟩ := List.getElem_of_mem hu
    obtain ⟨a, n, c, e⟩ := (hi i (by omega)).isSlice
    rw [e]; rfl
  have hclone := CloneL_any v vs w hrow hone (by omega)
  obtain ⟨a, cap, rfl, hlc, hbig, hc⟩ := hrow
  obtain ⟨i0, hii, hz0, hz1, hz2⟩ := info_parts infoInt
  obtain ⟨i1, hji, hy0, hy1, hy2⟩ := info_parts infoInts
  rw [hl] at hclone
  go_enter Try.func38, Try.ntmps38
  go_wp2_with (go_at_call 72; refine hclone.mono ?_; rintro e w1 ⟨v1, rfl, hown1, hb1⟩)
  clear hclone
  go_loopw [4, 11] (fun s4 s11 wr => ∃ k : Nat, k ≤ B.length ∧ s11 = .int .i64 k ∧ wr.ownsRow w.heap.size 3 1 s4 k (headVals B k) ∧ wr.ownsRow w.heap.size 22 1 v1 B.length vs ∧ Below w.heap.size w wr) (fun _ s11 _ => B.length - (intOf s11).toNat)
  case atStart => exact ⟨0, Nat.zero_le _, rfl, World.ownsRow_nil _ _ _ _, hown1, hb1⟩
  case round =>
    obtain ⟨k, hk, rfl, hownh, hownl, hb⟩ := hrel
    by_cases hB : k < B.length
    · have hlt : k < vs.length := by omega
      obtain ⟨b, off, rfl, hcell⟩ := hc k hlt
      have hpos : 0 < B[k].length := List.length_pos_iff.2 (hne _ (List.getElem_mem hB))
      have hcell' : wr.cell? ⟨b, off + k, none⟩ = some vs[k] := by rw [hb.cell (World.block_lt_of_cell? _ _ hcell)]; exact hcell
      obtain ⟨ax, cx, hvx, hlx, hmx, hcx⟩ := hi k hB
      obtain ⟨bx, ox, rfl, hcx0⟩ := hcx 0 hpos
      have hcx0' : wr.cell? ⟨bx, ox, none⟩ = some (.int .i64 (headI B[k])) := by rw [← headI_getElem _ hpos, ← hcx0, hb.cell (p := ⟨bx, ox, none⟩) (World.block_lt_of_cell? _ _ hcx0)]; rfl
      have HT := Lib.hid (headVals_succ B k hB)
      rw [hvx] at hcell'
      clear hcx hcx0 hcell hvx hi hc hone hne hown1 hb1
      generalize headI B[k] = n at *
      generalize B[k].length = lx at *
      go_wp2_with (at_builtin; refine wpList_append_own _ rfl _ _ 22 rfl w.heap.size 3 i0 (.int .i64 0) 1 8 Try.underlying22 hii hz0 hz1 hz2 rfl (by decide) _ _ _ rfl (hownh.alloc _) ⟨wr.heap.size, 0, none⟩ 1 1 [.int .i64 n] rfl rfl ?c1 ?c2 ?c3 ?c4 ?c5 ?_)
      case c1 => exact cell_one_new _ _ _
      case c2 => simp [Value.oneCell']
      case c3 => rw [maxLen_eq']; omega
      case c4 => omega
      case c5 => have := hb.size; simp; omega
      intro v' w2 hown2 hgr2 _
      have hapart := own_apart (hownl.alloc (.cells #[.int .i64 n] 3)) (hownh.alloc (.cells #[.int .i64 n] 3)) (by decide)
      have hownl2 := (hownl.alloc (.cells #[.int .i64 n] 3)).kept hgr2 hapart
      have hb2 : Below w.heap.size w w2 := (hb.alloc hb.size _).grown hgr2 (by have := hb.size; simp; omega) (fun q hq => (hownh.lt q hq).1)
      have hown2' := own_cast hown2 rfl HT.out.symm
      clear hown2 hgr2 hapart
      go_wp2
      go_roundw
      case rel => exact ⟨k + 1, by omega, by go_num, hown2', hownl2, hb2⟩
      case measure => simp [intOf]; omega
    · have hk' : k = B.length := by omega
      have HK := Lib.hid hk'
      clear hk' hown1 hb1 hone hc
      obtain ⟨ah, ch, rfl⟩ := own_isSlice hownh
      go_wp2_with (at_builtin; refine wpList_append_own _ rfl _ _ 30 rfl w.heap.size 22 i1 (.slice none 0 0) 1 24 Try.underlying30 hji hy0 hy1 hy2 rfl (by decide) _ _ _ rfl (hownl.alloc _) ⟨wr.heap.size, 0, none⟩ 1 1 [.slice ah k ch] rfl rfl ?d1 ?d2 ?d3 ?d4 ?d5 ?_)
      case d1 => exact cell_one_new _ _ _
      case d2 => simp [Value.oneCell']
      case d3 => rw [maxLen_eq']; omega
      case d4 => omega
      case d5 => have := hb.size; simp; omega
      intro v' w2 hown2 hgr2 _
      have hownh1 := hownh.alloc (.cells #[.slice ah k ch] 22)
      have hapart := own_apart hownh1 (hownl.alloc (.cells #[.slice ah k ch] 22)) (by decide)
      have hownh2 := hownh1.kept hgr2 hapart
      have hb2 : Below w.heap.size w w2 := (hb.alloc hb.size _).grown hgr2 (by have := hb.size; simp; omega) (fun q hq => (hownl.lt q hq).1)
      have hapart2 := own_apart hownh2 hown2 (by decide)
      obtain ⟨g, c2, rfl, hg⟩ := own_form hown2 (by omega)
      clear hapart hgr2 hownh1
      have hel : Elems w2 g (vs ++ [.slice ah k ch]) (B ++ [B.map headI]) := by
        refine ⟨by simp [hl], fun i hi' => ?_⟩
        by_cases hib : i < B.length
        · have e1 : (vs ++ [.slice ah k ch])[i]'(by simp [hl]; omega) = vs[i] := List.getElem_append_left (by omega)
          have e2 : (B ++ [B.map headI])[i] = B[i] := List.getElem_append_left hib
          rw [e1, e2]
          refine ⟨(hi i hib).below hb2, fun hh => ?_⟩
          have := ownBlock_old (hi i hib) (List.length_pos_iff.2 (hne _ (List.getElem_mem hib))) g hh
          omega
        · have hie : i = B.length := by simp at hi'; omega
          have e1 : (vs ++ [.slice ah k ch])[i]'(by simp [hl]; omega) = .slice ah k ch := by rw [List.getElem_append_right (by omega)]; simp [hl, hie]
          have e2 : (B ++ [B.map headI])[i] = B.map headI := by rw [List.getElem_append_right (by omega)]; simp [hie]
          rw [e1, e2]
          constructor
          · have h3 : headVals B k = (B.map headI).map (Value.int .i64) := by unfold headVals; rw [HK.out, List.take_length]
            exact Ints_of_own (own_cast hownh2 (by simp [HK.out]) h3)
          · rcases hapart2 with h | h
            · rw [h]; simp
            · simpa [Value.ownBlock] using h
      go_wp2
      go_ret
      exact ⟨g, c2, _, rfl, hg, hown2, hel, hb2⟩
end Go.Proofs.Ytbickehhnkhabaa
