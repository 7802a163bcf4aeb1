/- Walks: Clone, DeleteFunc over [][]int. -/
import Derived.Test.YtbickehhnkhabaaLin3
import Derived.Test.YtbickehhnkhabaaOwn
namespace Go.Proofs.Ytbickehhnkhabaa
open Go.RowKit

set_option maxHeartbeats 400000 in
theorem CloneL_any (v : Value) (cs : List Value) (w : World) (hv : Row w v cs) (h1 : ∀ u ∈ cs, u.oneCell' = true) (hbig : cs.length * 24 ≤ 140737488355328) :
    Calls Try.prog 72 #[v] w fun e w' => ∃ v', e = .returned v' ∧ w'.ownsRow w.heap.size 22 1 v' cs.length cs ∧ Below w.heap.size w w' := by
  obtain ⟨a, c, rfl, hl, hm, hc⟩ := hv
  have q22 : ∀ (w : World) (a : Option Addr) (n c n' c' : Nat), (binOp .eql 30 (.slice a n c) (.slice none n' c')).run Try.prog w = .ok (.bool a.isNone) w := fun w a n c n' c' => Lib.run_eql_slice_nil w _ _ a n c n' c' Try.underlying30
  cases a with
  | none =>
    have h0 : cs.length = 0 := by
      rcases Nat.eq_zero_or_pos cs.length with h | h
      · exact h
      · obtain ⟨b, off, h', _⟩ := hc 0 h; simp at h'
    have hcs : cs = [] := List.eq_nil_of_length_eq_zero h0
    subst hcs
    go_enter Try.func72, Try.ntmps72
    go_wp2
    go_ret
    exact ⟨_, rfl, World.ownsRow_nil _ _ _ _, Below.refl _ _⟩
  | some ad =>
    have hadd : ∀ j u, cs[j]? = some u → w.cell? (ad.add j) = some u := by
      intro j u hj
      have hlt : j < cs.length := by
        rcases Nat.lt_or_ge j cs.length with h | h
        · exact h
        · rw [List.getElem?_eq_none h] at hj; cases hj
      obtain ⟨b, off, h', hcell⟩ := hc j hlt
      simp only [Option.some.injEq] at h'
      subst h'
      rw [List.getElem?_eq_getElem hlt] at hj
      simp only [Option.some.injEq] at hj
      subst hj
      have : (⟨b, off, none⟩ : Addr).add j = ⟨b, off + j, none⟩ := by unfold Addr.add; split <;> simp_all
      rw [this]; exact hcell
    have A := Lib.hid hadd
    clear hadd hc
    obtain ⟨i0, hi, hz0, hz1, hz2⟩ := info_parts infoInts
    go_enter Try.func72, Try.ntmps72
    go_wp2_with (at_builtin; refine wpList_append_own _ rfl _ _ 30 rfl w.heap.size 22 i0 (.slice none 0 0) 1 24 Try.underlying30 hi hz0 hz1 hz2 rfl (by decide) _ _ _ rfl (World.ownsRow_made w #[] 0 (Nat.le_refl _) (Nat.zero_le _) (by simp)) ad cs.length c cs rfl ?qc1 ?qc2 ?qc3 ?qc4 ?qc5 ?qc6 ?_)
    case qc1 => simp
    case qc2 =>
      intro j u hj
      exact Lib.cell?_alloc_some _ (A.out j u hj)
    case qc3 => exact h1
    case qc4 => rw [Nat.zero_add, maxLen_eq']; omega
    case qc5 => rw [Nat.zero_add]; exact hbig
    case qc6 => simp
    intro v' w1 hown hgrow hnil
    go_wp2
    go_ret
    refine ⟨v', rfl, by simpa using hown, ?_⟩
    exact ((Below.refl _ w).alloc (Nat.le_refl _) _).grown hgrow (by simp) (by intro k hk; simp [Value.ownBlock] at hk; omega)


theorem mergeLen_any (a : Option Addr) (n c : Nat) (w : World) :
    Calls Try.prog 70 #[.slice a n c] w fun e w' => e = .returned (.bool (decide (n = 0))) ∧ w = w' := by
  by_cases h0 : n = 0
  · subst h0
    go_enter Try.func70, Try.ntmps70
    go_wp2
    go_ret
    exact ⟨rfl, rfl⟩
  · have hb : ((n : Int) == 0) = false := by simp; omega
    go_enter Try.func70, Try.ntmps70
    go_wp2
    go_ret
    exact ⟨ret_bool (by simp [h0]), rfl⟩

set_option maxRecDepth 100000 in
set_option maxHeartbeats 1000000 in
theorem DeleteFuncL_any (base g0 n cap : Nat) (cs : List Value) (p : Value → Bool) (g : Nat) (w : World) (hn : n = cs.length) (hm : n ≤ 9223372036854775807)
    (hv : w.ownsRow base 22 1 (.slice (some ⟨g0, 0, none⟩) n cap) n cs) (h1 : ∀ u ∈ cs, ∃ a n c, u = .slice a n c)
    (eg : ∀ args w, (callFunc g args).run Try.prog w = .ok (.enter g args) w)
    (hp : ∀ u ∈ cs, ∀ W, Calls Try.prog g #[u] W fun e W' => e = .returned (.bool (p u)) ∧ W = W') :
    Calls Try.prog 69 #[.slice (some ⟨g0, 0, none⟩) n cap, .func (.func g) #[] #[]] w fun e w' =>
      e = .returned (.slice (some ⟨g0, 0, none⟩) (cs.filter fun u => !p u).length cap) ∧ w'.ownsRow base 22 1 (.slice (some ⟨g0, 0, none⟩) (cs.filter fun u => !p u).length cap) (cs.filter fun u => !p u).length (cs.filter fun u => !p u) ∧ w.grownBy w' (some g0) := by
  have hcap : n ≤ cap := by
    rcases hv.2 with ⟨h', _⟩ | ⟨_, _, _, h', _, _, h, _⟩
    · simp at h'
    · simp only [Value.slice.injEq] at h'; omega
  have hcapm : cap ≤ 9223372036854775807 := by
    rcases hv.2 with ⟨h', _⟩ | ⟨_, _, _, h', _, _, _, h, _⟩
    · simp at h'
    · rw [maxLen_eq'] at h; simp only [Value.slice.injEq] at h'; omega
  have hrow : Row w (.slice (some ⟨g0, 0, none⟩) n cap) cs := by rw [hn]; exact Row_of_own (by rw [← hn]; exact hv)
  have hpi : ∀ i (h : i < cs.length) W, Below w.heap.size w W → Calls Try.prog g (#[cs[i]] ++ #[]) W fun e W' => e = .returned (.bool ((fun i => p (cs.getD i undef)) i)) ∧ Below W.heap.size W W' := fun i h W _ =>
    (hp cs[i] (List.getElem_mem h) W).mono fun e W' ⟨he, hw⟩ => ⟨by rw [he]; simp [List.getD, h], hw ▸ Below.refl _ _⟩
  have hidx := IndexFuncL_any _ cs _ g #[] w hrow eg hpi
  clear hpi hrow
  rcases firstFrom_spec (fun i => p (cs.getD i undef)) cs.length 0 with ⟨hf, hall⟩ | ⟨i0, _, hi0, hf, hyes, hall⟩
  · have hfil : cs.filter (fun u => !p u) = cs := by
      rw [List.filter_eq_self]
      intro u hu
      obtain ⟨i, hi, rfl⟩ := List.getElem_of_mem hu
      have := hall i (Nat.zero_le _) hi
      simpa [List.getD, hi] using this
    rw [hfil, hn]
    rw [hn] at hv hidx
    rw [hf] at hidx
    clear hall hp hf hfil hn h1
    go_enter Try.func69, Try.ntmps69
    go_wp2_with (go_at_call 58; refine hidx.mono ?_; rintro e w' ⟨rfl, hb⟩)
    go_ret
    refine ⟨rfl, hv.kept (grown_of_below hb none) (.inr (by simp [Value.ownBlock])), grown_of_below hb _⟩
  · rw [hf] at hidx
    have hstart : ((cs.take (i0 + 1)).filter fun u => !p u) = cs.take i0 := by
      rw [List.take_succ_eq_append_getElem hi0, List.filter_append]
      have hy : p cs[i0] = true := by simpa [List.getD, hi0] using hyes
      have h1' : (cs.take i0).filter (fun u => !p u) = cs.take i0 := by
        rw [List.filter_eq_self]
        intro u hu
        obtain ⟨i, hi, rfl⟩ := List.getElem_of_mem hu
        have hi' : i < i0 := by simp at hi; omega
        have := hall i (Nat.zero_le _) hi'
        simpa [List.getD, Nat.lt_trans hi' hi0] using this
      rw [h1']; simp [hy]
    have hi0n : i0 < n := by omega
    have hne1 : ((i0 : Int) == -1) = false := by rw [beq_eq_false_iff_ne]; omega
    have HN := Lib.hid hn
    clear hall hf hyes hn
    go_enter Try.func69, Try.ntmps69
    go_wp2_with (go_at_call 58; refine hidx.mono ?_; rintro e w1 ⟨rfl, hb⟩)
    have hown1 : w1.ownsRow base 22 1 (.slice (some ⟨g0, 0, none⟩) n cap) n cs := hv.kept (grown_of_below hb none) (.inr (by simp [Value.ownBlock]))
    have hgr1 : w.grownBy w1 (some g0) := grown_of_below hb _
    clear hidx hv hb
    go_loopw [5, 6] (fun s5 s6 wr => ∃ i j : Nat, ∃ xs : List Value, s5 = .int .i64 i ∧ s6 = .int .i64 j ∧ i < j ∧ j ≤ n ∧ wr.ownsRow base 22 1 (.slice (some ⟨g0, 0, none⟩) n cap) n xs ∧ w.grownBy wr (some g0) ∧
      Hid (xs.take i = (cs.take j).filter fun u => !p u) ∧ Hid (xs.drop j = cs.drop j) ∧ Hid (i = ((cs.take j).filter fun u => !p u).length)) (fun _ s6 _ => n - (intOf s6).toNat)
    case atStart =>
      exact ⟨i0, i0 + 1, cs, rfl, by go_num, by omega, by omega, hown1, hgr1, hstart.symm, rfl, by unfold Hid; rw [hstart, List.length_take]; omega⟩
    case round =>
      obtain ⟨i, j, xs, rfl, rfl, hij, hjn, hown, hgr, hT, hD, hI⟩ := hrel
      by_cases hlt : j < n
      · have hjc : j < cs.length := by have := HN.out; omega
        have hxl : xs.length = n := by have := hown.1; omega
        have hxj : xs[j]'(by omega) = cs[j] := by
          have h := hD.out
          have h' : (xs.drop j)[0]? = (cs.drop j)[0]? := by rw [h]
          simpa [hjc, hxl, hlt] using h'
        have hcell : wr.cell? ⟨g0, j, none⟩ = some cs[j] := by rw [hown.cellAt j (by omega), List.getElem?_eq_getElem (by omega), hxj]
        have hcelli : wr.cell? ⟨g0, i, none⟩ = some (xs[i]'(by omega)) := by rw [hown.cellAt i (by omega), List.getElem?_eq_getElem (by omega)]
        have hfri := hown.frozenAt i
        have hcall := hp cs[j] (List.getElem_mem hjc)
        have hsnoc : ((cs.take (j + 1)).filter fun u => !p u) = ((cs.take j).filter fun u => !p u) ++ (if p cs[j] then [] else [cs[j]]) := by
          rw [List.take_succ_eq_append_getElem hjc, List.filter_append]
          cases hpc : p cs[j] <;> simp [hpc]
        have hdr : xs.drop (j + 1) = cs.drop (j + 1) := by
          have h := congrArg List.tail hD.out
          simpa using h
        have HS := Lib.hid hsnoc
        have HR := Lib.hid hdr
        have hst := hown.stored i cs[j]
        obtain ⟨a1, n1, c1, hsl⟩ := h1 cs[j] (List.getElem_mem hjc)
        clear hsnoc hdr hxj h1 hp
        generalize hyy : cs[j] = y at *
        subst hsl
        clear hyy
        generalize hzz : xs[i]'(by omega) = z at *
        clear hzz
        cases hq : p (.slice a1 n1 c1) with
        | true =>
          rw [hq] at hcall
          have HQ := Lib.hid hq
          clear hq hst
          go_wp2_with (go_at_fn g; refine (hcall _).mono ?_; rintro e w' ⟨rfl, rfl⟩)
          go_roundw
          case rel => exact ⟨i, j + 1, xs, rfl, by go_num, by omega, by omega, hown, hgr, by unfold Hid; rw [HS.out, HQ.out, hT.out]; simp, HR, by unfold Hid; rw [HS.out, HQ.out]; simpa using hI.out⟩
          case measure => simp [intOf]; omega
        | false =>
          rw [hq] at hcall
          have HQ := Lib.hid hq
          clear hq
          go_wp2_with (go_at_fn g; refine (hcall _).mono ?_; rintro e w' ⟨rfl, rfl⟩)
          go_roundw
          case rel =>
            refine ⟨i + 1, j + 1, xs.set i (.slice a1 n1 c1), by go_num, by go_num, by omega, by omega, hst.1, grown_trans hgr hst.2, ?_, ?_, ?_⟩
            · unfold Hid
              rw [HS.out, HQ.out, ← hT.out, List.take_set, List.take_succ_eq_append_getElem (by omega)]
              rw [List.set_append_right _ _ (by simp; omega)]
              simp [List.length_take, Nat.min_eq_left (show i ≤ xs.length by omega)]
            · unfold Hid; rw [List.drop_set_of_lt (by omega)]; exact HR.out
            · unfold Hid; rw [HS.out, HQ.out, List.length_append, ← hI.out]; rfl
          case measure => simp [intOf]; omega
      · have hj' : j = n := by omega
        have hxl : xs.length = n := by have := hown.1; omega
        have hcl : ∀ ty, (Builtin.clear_ #[30] ty #[.slice (some ⟨g0, i, none⟩) (n - i) (cap - i)]).run Try.prog wr = .ok (.tuple #[]) (wr.setCells g0 i (List.replicate (n - i) (.slice none 0 0))) :=
          fun ty => Lib.run_clear_slice wr 30 22 ty (.slice none 0 0) Try.underlying30 (fun w => by kernel_rfl) rfl rfl g0 i (n - i) (cap - i) (by omega)
            (fun q hq => by rw [hown.cellAt (i + q) (by omega), List.getElem?_eq_getElem (by omega)]; rfl) (fun q _ => hown.frozenAt (i + q))
        have hsh := own_setCells (List.replicate (n - i) (.slice none 0 0)) i wr (own_shrink hown (by omega)) (Nat.le_refl _)
        have hfin : xs.take i = cs.filter fun u => !p u := by rw [hT.out, List.take_of_length_le (by have := HN.out; omega)]
        have hlen : i = (cs.filter fun u => !p u).length := by rw [← hfin, List.length_take]; omega
        rw [hfin] at hsh
        have HL := Lib.hid hlen
        clear hfin hlen h1 hp
        go_wp2_with (simp only [hcl])
        go_ret
        refine ⟨ret_val (by rw [← HL.out]; rfl), ?_, grown_trans hgr hsh.2⟩
        have h3 := hsh.1
        rw [← HL.out]
        exact h3

end Go.Proofs.Ytbickehhnkhabaa
