/- Walks: merge. -/
import Derived.Test.YtbickehhnkhabaaLin5
namespace Go.Proofs.Ytbickehhnkhabaa
open Go.RowKit

theorem Elems.set {w : World} {g : Nat} {cs : List Value} {B : List (List Int)} (h : Elems w g cs B) {k : Nat} {u : Value} {b : List Int} (hu : Ints w u b) (hg : u.ownBlock ≠ some g) : Elems w g (cs.set k u) (B.set k b) := by
  obtain ⟨hl, h⟩ := h
  refine ⟨by simpa using hl, fun i hi => ?_⟩
  have hi' : i < B.length := by simpa using hi
  rw [List.getElem_set, List.getElem_set]
  split
  · exact ⟨hu, hg⟩
  · exact h i hi'

theorem Elems.grown {w w' : World} {g : Nat} {cs : List Value} {B : List (List Int)} (h : Elems w g cs B) (hg : w.grownBy w' (some g)) : Elems w' g cs B := by
  obtain ⟨hl, h⟩ := h
  exact ⟨hl, fun i hi => ⟨(h i hi).1.grown hg (.inl (h i hi).2), (h i hi).2⟩⟩

theorem Elems.cons_iff {w : World} {g : Nat} {c : Value} {cs : List Value} {b : List Int} {B : List (List Int)} : Elems w g (c :: cs) (b :: B) ↔ (Ints w c b ∧ c.ownBlock ≠ some g) ∧ Elems w g cs B := by
  constructor
  · rintro ⟨hl, h⟩
    exact ⟨h 0 (by simp), by simpa using hl, fun i hi => h (i + 1) (by simpa using hi)⟩
  · rintro ⟨h0, hl, h⟩
    refine ⟨by simpa using hl, fun i hi => ?_⟩
    cases i with
    | zero => exact h0
    | succ i => exact h i (by simpa using hi)

theorem Elems.length {w : World} {g : Nat} {cs : List Value} {B : List (List Int)} (h : Elems w g cs B) : cs.length = B.length := h.1

def lenV : Value → Nat | .slice _ n _ => n | _ => 0

theorem lenV_of {w : World} {v : Value} {l : List Int} (h : Ints w v l) : lenV v = l.length := by obtain ⟨a, cap, rfl, _⟩ := h; rfl

theorem Elems.filter {w : World} {g : Nat} : ∀ {cs : List Value} {B : List (List Int)}, Elems w g cs B → Elems w g (cs.filter fun u => !decide (lenV u = 0)) (ne B)
  | [], [], h => by simpa [ne] using h
  | c :: cs, b :: B, h => by
    obtain ⟨h0, h1⟩ := Elems.cons_iff.1 h
    have ih := Elems.filter h1
    have hlen := lenV_of h0.1
    unfold ne at *
    rw [List.filter_cons, List.filter_cons]
    cases b with
    | nil => simp at hlen; simpa [hlen] using ih
    | cons x b =>
      have h2 : (decide (lenV c = 0)) = false := by simp; rw [hlen]; simp
      simp only [h2, Bool.not_false, if_true, List.isEmpty_cons]
      exact Elems.cons_iff.2 ⟨h0, ih⟩
  | [], _ :: _, h => by have := h.1; simp at this
  | _ :: _, [], h => by have := h.1; simp at this

theorem Elems.rows {w : World} {g : Nat} {cs : List Value} {B : List (List Int)} {base : Nat} {v : Value} {n : Nat} {e : TypeId} (h : Elems w g cs B) (ho : w.ownsRow base e 1 v n cs) (hn : n = cs.length) : IntRows w v B := by
  subst hn
  exact ⟨cs, h.1, Row_of_own ho, fun i hi => (h.2 i hi).1⟩

def intVals (l : List Int) : List Value := l.map (Value.int .i64)

theorem Elems.slices {w : World} {g : Nat} {cs : List Value} {B : List (List Int)} (h : Elems w g cs B) : ∀ u ∈ cs, ∃ a n c, u = .slice a n c := by
  intro u hu
  obtain ⟨i, hi', rfl⟩ := List.getElem_of_mem hu
  exact (h.2 i (by have := h.1; omega)).1.isSlice

set_option maxRecDepth 100000 in
set_option maxHeartbeats 2000000 in
theorem merge_any (base g n cap : Nat) (cs : List Value) (B : List (List Int)) (w : World) (hn : n = B.length) (hown : w.ownsRow base 22 1 (.slice (some ⟨g, 0, none⟩) n cap) n cs) (hel : Elems w g cs B) (htot : total B ≤ 1000000) (hbig : n ≤ 1000000) :
    Calls Try.prog 37 #[.slice (some ⟨g, 0, none⟩) n cap] w fun e w' => ∃ v1 v2, e = .returned (.tuple #[v1, v2]) ∧ Ints w' v1 (mergeF (total B + 1) [] (ne B)).1 ∧ IntRows w' v2 (mergeF (total B + 1) [] (ne B)).2 ∧ w.grownBy w' (some g) ∧ ∀ k, v1.ownBlock = some k → w.heap.size ≤ k := by
  have hgw : g < w.heap.size := (hown.lt g rfl).2
  have hbase : base ≤ g := (hown.lt g rfl).1
  obtain ⟨i0, hii, hz0, hz1, hz2⟩ := info_parts infoInt
  generalize hR : mergeF (total B + 1) [] (ne B) = R
  have HR := Lib.hid hR
  clear hR
  have eg := enters_of Try.func70 (by kernel_rfl) rfl
  go_enter Try.func37, Try.ntmps37
  go_wp2
  go_loopg [0, 4] (total B + 1) (fun f s0 s4 wr => ∃ cs' B' outl, s0 = .slice (some ⟨g, 0, none⟩) cs'.length cap ∧ cs'.length ≤ n ∧ wr.ownsRow base 22 1 (.slice (some ⟨g, 0, none⟩) cs'.length cap) cs'.length cs' ∧ Elems w g cs' B' ∧
    wr.ownsRow w.heap.size 3 1 s4 outl.length (intVals outl) ∧ w.grownBy wr (some g) ∧ Hid (mergeF f outl (ne B') = R) ∧ total B' < f ∧ outl.length + total B' ≤ total B)
  case atStart => exact ⟨cs, B, [], by rw [hel.length, hn], by rw [hel.length, hn]; exact Nat.le_refl _, by rw [hel.length, ← hn]; exact hown, hel, World.ownsRow_nil _ _ _ _, grown_refl _ _, HR, by omega, by simp⟩
  case round =>
    obtain ⟨cs1, B1, outl, rfl, hlen1, hown1, hel1, hout1, hgr1, hM, hf, hbd⟩ := hrel
    have hdel := DeleteFuncL_any base g cs1.length cap cs1 (fun u => decide (lenV u = 0)) 70 wr rfl (by omega) hown1 hel1.slices eg
      (fun u hu W => by obtain ⟨a, m, c, rfl⟩ := hel1.slices u hu; exact mergeLen_any a m c W)
    have hel2 := hel1.filter
    generalize hcs2 : (cs1.filter fun u => !decide (lenV u = 0)) = cs2 at *
    have hlen2 : cs2.length ≤ cs1.length := by rw [← hcs2]; exact List.length_filter_le _ _
    clear hcs2
    go_wp2_with (go_at_call 69; refine hdel.mono ?_; rintro e w2 ⟨rfl, hown2, hgr2⟩)
    clear hdel
    have hnb : u4.ownBlock = none ∨ u4.ownBlock ≠ some g := by
      cases h0 : u4.ownBlock with
      | none => exact .inl rfl
      | some k => exact .inr (fun hh => by have := (hout1.lt k h0).1; simp at hh; omega)
    have hout2 := hout1.kept hgr2 hnb
    have hgr12 := grown_trans hgr1 hgr2
    have hrows := (hel2.grown hgr12).rows hown2 rfl
    have hcand := candidate_any _ (ne B1) w2 hrows (ne_mem B1)
    obtain ⟨f', rfl⟩ : ∃ f', gk = f' + 1 := ⟨gk - 1, by omega⟩
    clear hown1 hout1 hel1 hgr1 hgr2
    cases hc : cand (ne B1) (ne B1) with
    | none =>
      rw [hc] at hcand
      have hRe := hM.out.symm.trans (mergeF_none hc)
      have HRe := Lib.hid hRe
      clear hRe hc
      go_wp2_with (go_at_call 71; refine hcand.mono ?_; rintro e w3 ⟨rfl, hb3⟩; simp only [candV])
      go_ret2
      refine ⟨_, _, rfl, ?_, ?_, grown_trans hgr12 (grown_of_below hb3 _), fun k hk => (hout2.lt k hk).1⟩
      · rw [HRe.out]; exact Ints_of_own (own_below hout2 hb3)
      · rw [HRe.out]; exact hrows.below hb3
    | some m =>
      rw [hc] at hcand
      have hRe := (mergeF_some (k := f') (out := outl) hc).symm.trans hM.out
      have HRe := Lib.hid hRe
      have hdec := total_beh m (ne B1) (ne_mem B1) (cand_mem hc)
      rw [total_ne] at hdec
      clear hRe hc hrows
      go_wp2_with (first | (go_at_call 71; refine hcand.mono ?_; rintro e w3 ⟨rfl, hb3⟩; simp only [candV]; have hout3 := own_below hout2 hb3; have hown3 := own_below hown2 hb3; have hgr3 := grown_trans hgr12 (grown_of_below hb3 (some g)); clear hout2 hown2 hgr12) | (at_builtin; refine wpList_append_own _ rfl _ _ 22 rfl w.heap.size 3 i0 (.int .i64 0) 1 8 Try.underlying22 hii hz0 hz1 hz2 rfl (by decide) _ _ _ rfl (hout3.alloc _) ⟨w3.heap.size, 0, none⟩ 1 1 [.int .i64 m] rfl rfl ?c1 ?c2 ?c3 ?c4 ?c5 ?_))
      case c1 => exact cell_one_new _ _ _
      case c2 => simp [Value.oneCell']
      case c3 => rw [maxLen_eq']; omega
      case c4 => omega
      case c5 => have := hgr3.size; simp; omega
      intro v' w4 hout4 hgr4 _
      have hgrA := grown_trans hgr3 (World.grownBy_alloc w3 (.cells #[.int .i64 m] 3) (some g))
      have hgr4' : w.grownBy w4 (some g) := grown_new hgrA hgr4 (fun k hk => .inl (hout3.lt k hk).1)
      have hng : (Value.slice (some ⟨g, 0, none⟩) cs2.length cap).ownBlock ≠ u4.ownBlock := by
        rcases hnb with h | h
        · rw [h]; simp [Value.ownBlock]
        · exact fun hh => h hh.symm
      have hown4 := (hown3.alloc (.cells #[.int .i64 m] 3)).kept hgr4 (.inr hng)
      have hout4' : w4.ownsRow w.heap.size 3 1 v' (outl ++ [m]).length (intVals (outl ++ [m])) := own_cast hout4 (by simp) (by simp [intVals])
      clear hout4 hgr4 hgrA hout3 hown3 hgr3 hb3 hnb
      have hnb' : v'.ownBlock = none ∨ v'.ownBlock ≠ some g := by
        cases h0 : v'.ownBlock with
        | none => exact .inl rfl
        | some k => exact .inr (fun hh => by have := (hout4'.lt k h0).1; simp at hh; omega)
      have hB2 : cs2.length = (ne B1).length := hel2.length
      have hM2 : Hid (ne B1 = ne B1) := rfl
      generalize hN : ne B1 = N at *
      have hNne : ∀ x ∈ N, x ≠ [] := by rw [← hN]; exact ne_mem B1
      clear hN hM2
      have HB2 := Lib.hid hB2
      clear hB2 hng
      generalize hL : outl ++ [m] = outl2 at *
      have hL2 : outl2.length = outl.length + 1 := by rw [← hL]; simp
      clear hL
      have HL2 := Lib.hid hL2
      clear hL2
      go_wp2
      go_loopg [26] cs2.length (fun q s26 wi => ∃ k : Nat, ∃ cs3, k ≤ cs2.length ∧ cs2.length - k ≤ q ∧ s26 = .int .i64 k ∧ wi.ownsRow base 22 1 (.slice (some ⟨g, 0, none⟩) cs2.length cap) cs2.length cs3 ∧ Elems w g cs3 (stripTo m k N) ∧
        wi.ownsRow w.heap.size 3 1 v' outl2.length (intVals outl2) ∧ w.grownBy wi (some g))
      case atStart => exact ⟨0, cs2, by omega, by omega, rfl, hown4, by rw [stripTo_zero]; exact hel2, hout4', hgr4'⟩
      case round =>
        obtain ⟨k, cs3, hk, hq, rfl, hown5, hel5, hout5, hgr5⟩ := hrel
        by_cases hlt : k < cs2.length
        · have hkN : k < N.length := by have := HB2.out; omega
          have hgetN := stripTo_get m k N hkN
          have hlenS := stripTo_length m k N (Nat.le_of_lt hkN)
          have hl3 : cs3.length = cs2.length := by have := hown5.1; omega
          obtain ⟨hik, hbk⟩ := hel5.2 k (by omega)
          rw [hgetN] at hik
          have hpos : 0 < N[k].length := List.length_pos_iff.2 (hNne _ (List.getElem_mem hkN))
          have hcell : wr.cell? ⟨g, k, none⟩ = some (cs3[k]'(by omega)) := by rw [hown5.cellAt k (by omega), List.getElem?_eq_getElem (by omega)]
          have hfr := hown5.frozenAt k
          obtain ⟨u, hu, hsl, hub⟩ := Ints.tail hik hpos
          have hung : u.ownBlock ≠ some g := fun hh => hbk (hub g hh)
          have hst := hown5.stored k u
          have hset := hel5.set (k := k) hu hung
          obtain ⟨au, nu, cu, hus⟩ := hu.isSlice
          obtain ⟨ax, cx, hvx, hlx, hmx, hcx⟩ := hik
          obtain ⟨bx, ox, rfl, hcx0⟩ := hcx 0 hpos
          have hbxg : bx ≠ g := by rw [hvx] at hbk; simpa [Value.ownBlock] using hbk
          have hcx1 : wr.cell? ⟨bx, ox, none⟩ = some (.int .i64 (headI N[k])) := by
            rw [← headI_getElem _ hpos]
            exact hgr5.cell (a := ⟨bx, ox, none⟩) hcx0 (by simpa using hbxg)
          rw [hvx] at hcell hsl
          clear hcx hcx0 hvx hub hu hbk hgetN
          subst hus
          generalize hx : N[k].length = lx at *
          clear hx
          cases hq : (headI N[k] == m) with
          | true =>
            have hS := stripTo_behind m k N hkN hq
            rw [← hS] at hset
            clear hS
            generalize headI N[k] = y at *
            go_wp2
            go_roundg (cs2.length - (k + 1))
            case measure => omega
            case rel => exact ⟨k + 1, _, by omega, by omega, by go_num, hst.1, hset, hout5.kept hst.2 hnb', grown_trans hgr5 hst.2⟩
          | false =>
            have hS := stripTo_same m k N hkN hq
            rw [← hS] at hel5
            clear hS hset hst
            generalize headI N[k] = y at *
            go_wp2
            go_roundg (cs2.length - (k + 1))
            case measure => omega
            case rel => exact ⟨k + 1, cs3, by omega, by omega, by go_num, hown5, hel5, hout5, hgr5⟩
        · have hk' : k = N.length := by have := HB2.out; omega
          have hl3 : cs3.length = cs2.length := by have := hown5.1; omega
          have hH3 := Lib.hid hl3
          have hK := Lib.hid hk'
          clear hl3 hk'
          go_wp2
          go_roundg f'
          case measure => omega
          case rel =>
            have hst := stripTo_all m N
            rw [← hK.out] at hst
            rw [hst] at hel5
            refine ⟨cs3, N.map (beh m), outl2, by rw [hH3.out], by rw [hH3.out]; omega, by rw [hH3.out]; exact hown5, hel5, hout5, hgr5, HRe, by omega, ?_⟩
            have := HL2.out
            omega
end Go.Proofs.Ytbickehhnkhabaa
