/- Walks: the reference's Merged. -/
import Derived.Test.YtbickehhnkhabaaLin6
import Derived.Test.YtbickehhnkhabaaLinSpec2
import Derived.Deep.AppendLies
import Derived.Deep.RegionLaw
import Derived.Test.YtbickehhnkhabaaOg
namespace Go.Proofs.Ytbickehhnkhabaa
open Go.RowKit

/-- What holds in the middle of 'left, heads = append(left, l), append(heads, l[0])', D its operations that have been carried out. -/
structure MRI (tL tH : TypeId) (N M k bx ox : Nat) (n : Int) (E u3 u4 : Value) (vl hv : List Value) (w : World) (D : Nat → Bool) (W : World) (s3 s4 s20 s21 s22 s23 s24 s25 s26 s27 s28 s29 : Value) : Prop where
  c0 : D 0 = true → s20 = u3
  c1 : D 1 = true → s21 = E
  c2 : D 2 = true → ∃ p, s22 = .slice (some ⟨p, 0, none⟩) 1 1 ∧ M ≤ p ∧ W.cell? ⟨p, 0, none⟩ = some E
  cL : (D 3 = false ∧ W.ownsRow N tL 1 u3 k vl) ∨ (D 3 = true ∧ ∃ g c, s23 = .slice (some ⟨g, 0, none⟩) (k + 1) c ∧ W.ownsRow N tL 1 (.slice (some ⟨g, 0, none⟩) (k + 1) c) (k + 1) (vl ++ [E]))
  c4 : D 4 = true → s24 = u4
  c5 : D 5 = true → s25 = E
  c6 : D 6 = true → s26 = .pointer (some ⟨bx, ox, none⟩)
  c7 : D 7 = true → s27 = .int .i64 n
  c8 : D 8 = true → ∃ p, s28 = .slice (some ⟨p, 0, none⟩) 1 1 ∧ M ≤ p ∧ W.cell? ⟨p, 0, none⟩ = some (.int .i64 n)
  cH : (D 9 = false ∧ W.ownsRow N tH 1 u4 k hv) ∨ (D 9 = true ∧ ∃ g c, s29 = .slice (some ⟨g, 0, none⟩) (k + 1) c ∧ W.ownsRow N tH 1 (.slice (some ⟨g, 0, none⟩) (k + 1) c) (k + 1) (hv ++ [.int .i64 n]))
  cb : Below N w W
  cm : M ≤ W.heap.size
  c10 : (D 10 = false ∧ s3 = u3) ∨ (D 10 = true ∧ D 0 = true ∧ D 3 = true ∧ s3 = s23)
  c11 : (D 11 = false ∧ s4 = u4) ∨ (D 11 = true ∧ D 4 = true ∧ D 9 = true ∧ s4 = s29)

theorem news1 {W : World} {p : Nat} {x : Value} (h : W.cell? ⟨p, 0, none⟩ = some x) : ∀ j u, [x][j]? = some u → W.cell? ((⟨p, 0, none⟩ : Addr).add j) = some u := by
  intro j u hj
  cases j with
  | zero => simp at hj; subst hj; exact h
  | succ j => simp at hj

/-- The rows of a slice of slices, each reading as its list. -/
def RowsAt (w : World) (cs : List Value) (B : List (List Int)) : Prop := ∃ _ : cs.length = B.length, ∀ i (h : i < B.length), Ints w cs[i] B[i]

theorem RowsAt.nil (w : World) : RowsAt w [] [] := ⟨rfl, fun i h => by simp at h⟩
theorem RowsAt.snoc {w : World} {cs : List Value} {B : List (List Int)} {u : Value} {b : List Int} (h : RowsAt w cs B) (hu : Ints w u b) : RowsAt w (cs ++ [u]) (B ++ [b]) := by
  obtain ⟨hl, h⟩ := h
  refine ⟨by simp [hl], fun i hi => ?_⟩
  by_cases hib : i < B.length
  · rw [List.getElem_append_left (by omega), List.getElem_append_left hib]; exact h i hib
  · have hie : i = B.length := by simp at hi; omega
    subst hie
    rw [List.getElem_append_right (by omega), List.getElem_append_right (by omega)]
    simpa [hl] using hu
theorem RowsAt.below {w w' : World} {cs : List Value} {B : List (List Int)} (h : RowsAt w cs B) (hb : Below w.heap.size w w') : RowsAt w' cs B := ⟨h.1, fun i hi => (h.2 i hi).below hb⟩
theorem RowsAt.rows {w : World} {base : Nat} {e : TypeId} {v : Value} {cs : List Value} {B : List (List Int)} (h : RowsAt w cs B) (ho : w.ownsRow base e 1 v cs.length cs) : IntRows w v B := ⟨cs, h.1, Row_of_own ho, h.2⟩
theorem RowsAt.grown {w w' : World} {cs : List Value} {B : List (List Int)} {row : Option Nat} (h : RowsAt w cs B) (hg : w.grownBy w' row) (hne : ∀ u ∈ cs, u.ownBlock ≠ row ∨ row = none) : RowsAt w' cs B :=
  ⟨h.1, fun i hi => (h.2 i hi).grown hg (hne _ (List.getElem_mem _))⟩

set_option maxRecDepth 100000 in
set_option maxHeartbeats 4000000 in
theorem Merged_any (v : Value) (B : List (List Int)) (w : World) (hv : IntRows w v B) (hne : ∀ y ∈ B, y ≠ []) (h8 : B.length ≤ 8) (htot : total B ≤ 1000) :
    Calls Try.prog 41 #[v] w fun e w' => ∃ v1 v2, e = .returned (.tuple #[v1, v2]) ∧ Ints w' v1 (mergeF (total (B ++ [B.map headI]) + 1) [] (ne (B ++ [B.map headI]))).1 ∧
      IntRows w' v2 (mergeF (total (B ++ [B.map headI]) + 1) [] (ne (B ++ [B.map headI]))).2 ∧ Below w.heap.size w w' ∧ ∀ k, v1.ownBlock = some k → w.heap.size ≤ k := by
  obtain ⟨vs, hl, ⟨a, cap, rfl, hlc, hbig, hc⟩, hi⟩ := hv
  have HNE := Lib.hid hne
  generalize hR : mergeF (total (B ++ [B.map headI]) + 1) [] (ne (B ++ [B.map headI])) = R
  have HR := Lib.hid hR
  clear hR
  obtain ⟨i0, hii, hz0, hz1, hz2⟩ := info_parts infoInt
  obtain ⟨i1, hji, hy0, hy1, hy2⟩ := info_parts infoInts
  go_enter Try.func41, Try.ntmps41
  go_wp2
  go_loopg [3, 4, 16] B.length (fun q s3 s4 s16 wr => ∃ k : Nat, k ≤ B.length ∧ B.length - k ≤ q ∧ s16 = .int .i64 k ∧ wr.ownsRow w.heap.size 22 1 s3 k (vs.take k) ∧ wr.ownsRow w.heap.size 3 1 s4 k (headVals B k) ∧ Below w.heap.size w wr)
  case atStart => exact ⟨0, Nat.zero_le _, by omega, rfl, World.ownsRow_nil _ _ _ _, World.ownsRow_nil _ _ _ _, Below.refl _ _⟩
  case round =>
    obtain ⟨k, hk, hq, rfl, hownl, hownh, hb⟩ := hrel
    by_cases hB : k < B.length
    · have hlt : k < vs.length := by omega
      obtain ⟨b, off, rfl, hcell⟩ := hc k hlt
      have hpos : 0 < B[k].length := List.length_pos_iff.2 (hne _ (List.getElem_mem hB))
      have hcell' : wr.cell? ⟨b, off + k, none⟩ = some vs[k] := by rw [hb.cell (World.block_lt_of_cell? _ _ hcell)]; exact hcell
      obtain ⟨ax, cx, hvx, hlx, hmx, hcx⟩ := hi k hB
      obtain ⟨bx, ox, rfl, hcx0⟩ := hcx 0 hpos
      have hbxw := World.block_lt_of_cell? _ _ hcx0
      have hcx0' : w.cell? ⟨bx, ox, none⟩ = some (.int .i64 (headI B[k])) := by rw [← headI_getElem _ hpos]; exact hcx0
      have HT := Lib.hid (headVals_succ B k hB)
      have hvt : vs.take (k + 1) = vs.take k ++ [.slice (some ⟨bx, ox, none⟩) B[k].length cx] := by rw [List.take_succ_eq_append_getElem hlt, hvx]
      have HV := Lib.hid hvt
      rw [hvx] at hcell'
      clear hcx hcx0 hcell hvx hi hc hne hvt
      generalize headI B[k] = n at *
      generalize B[k].length = lx at *
      have hpos' : (0 : Int) < (lx : Int) := by omega
      generalize hvl : vs.take k = vl at *
      generalize hhv : headVals B k = hv at *
      have hcxr : wr.cell? ⟨bx, ox, none⟩ = some (.int .i64 n) := by rw [hb.cell (p := ⟨bx, ox, none⟩) hbxw]; exact hcx0'
      clear hvl hhv
      go_wp2
      have hnl : ∀ q, u3.ownBlock = some q → q < wr.heap.size := fun q hq => (hownl.lt q hq).2
      have hnh : ∀ q, u4.ownBlock = some q → q < wr.heap.size := fun q hq => (hownh.lt q hq).2
      refine wp_region_ogk (by kernel_rfl) (fun D a W => ∃ s3 s4 s20 s21 s22 s23 s24 s25 s26 s27 s28 s29 : Value, a = ⟨#[.slice (some ⟨b, off, none⟩) B.length cap, undef, .slice none 0 0, s3, s4, undef, .slice (some ⟨bx, ox, none⟩) lx cx, undef, undef, undef, undef, undef, undef, undef, .slice (some ⟨b, off, none⟩) B.length cap, .int .i64 B.length, .int .i64 k, .bool true, .pointer (some ⟨b, off + k, none⟩), .slice (some ⟨bx, ox, none⟩) lx cx, s20, s21, s22, s23, s24, s25, s26, s27, s28, s29, u30, undef, undef, undef, undef, undef, undef, undef, undef, undef, undef, undef, undef, undef, undef, undef, undef, undef, undef, undef, undef, undef, undef, undef, undef, undef, undef, undef, undef, undef, undef, undef, undef, undef, undef, undef, undef, undef, undef, undef, undef, undef, undef, undef, undef, undef, undef, undef, undef, undef, undef, undef, undef, undef, undef, undef, undef, undef, undef, undef, undef, undef], []⟩ ∧
        MRI 22 3 w.heap.size wr.heap.size k bx ox n (Value.slice (some ⟨bx, ox, none⟩) lx cx) u3 u4 vl hv w D W s3 s4 s20 s21 s22 s23 s24 s25 s26 s27 s28 s29) (by kernel_rfl) ?_ ?_ ?_
      · exact ⟨_, _, _, _, _, _, _, _, _, _, _, _, rfl, { c0 := (fun h => by cases h), c1 := (fun h => by cases h), c2 := (fun h => by cases h), cL := .inl ⟨rfl, hownl⟩, c4 := (fun h => by cases h), c5 := (fun h => by cases h), c6 := (fun h => by cases h), c7 := (fun h => by cases h), c8 := (fun h => by cases h), cH := .inl ⟨rfl, hownh⟩, cb := hb.drew, cm := Nat.le_refl _, c10 := .inl ⟨rfl, rfl⟩, c11 := .inl ⟨rfl, rfl⟩ }⟩
      · intro D a W hI hD
        obtain ⟨s3, s4, s20, s21, s22, s23, s24, s25, s26, s27, s28, s29, rfl, h⟩ := hI
        have e3 := hD 3 _ rfl
        have e9 := hD 9 _ rfl
        have e10 := hD 10 _ rfl
        have e11 := hD 11 _ rfl
        obtain ⟨_, g1, c1, rfl, hown1⟩ := h.cL.resolve_left fun hh => by rw [e3] at hh; cases hh.1
        obtain ⟨_, g2, c2, rfl, hown2⟩ := h.cH.resolve_left fun hh => by rw [e9] at hh; cases hh.1
        obtain ⟨_, _, _, rfl⟩ := h.c10.resolve_left fun hh => by rw [e10] at hh; cases hh.1
        obtain ⟨_, _, _, rfl⟩ := h.c11.resolve_left fun hh => by rw [e11] at hh; cases hh.1
        have hbW := h.cb
        clear h hD e3 e9 e10 e11
        have h1 := own_cast hown1 rfl HV.out.symm
        have h2 := own_cast hown2 rfl HT.out.symm
        clear hown1 hown2
        go_wp2
        go_roundg (B.length - (k + 1))
        case measure => omega
        case rel => exact ⟨k + 1, by omega, by omega, by go_num, h1, h2, hbW⟩
      · intro i o ho
        rcases i with _ | _ | _ | _ | _ | _ | _ | _ | _ | _ | _ | _ | i
        all_goals (simp only [List.getElem?_toArray, List.getElem?_cons_zero, List.getElem?_cons_succ, Option.some.injEq, List.getElem?_nil, reduceCtorEq] at ho)
        all_goals (try subst ho)
        · intro D a W hI hD he K hK
          obtain ⟨s3, s4, s20, s21, s22, s23, s24, s25, s26, s27, s28, s29, rfl, h⟩ := hI
          obtain ⟨_, rfl⟩ := (h.c10.resolve_right fun hh => by have := hh.2.1; rw [hD] at this; cases this)
          go_simp
          exact hK _ _ ⟨s3, s4, _, s21, s22, s23, s24, s25, s26, s27, s28, s29, rfl, { c0 := fun _ => rfl, c1 := h.c1, c2 := h.c2, cL := h.cL, c4 := h.c4, c5 := h.c5, c6 := h.c6, c7 := h.c7, c8 := h.c8, cH := h.cH, cb := h.cb, cm := h.cm, c10 := .inl ⟨(h.c10.resolve_right fun hh => by have := hh.2.1; rw [hD] at this; cases this).1, rfl⟩, c11 := h.c11 }⟩
        · intro D a W hI hD he K hK
          obtain ⟨s3, s4, s20, s21, s22, s23, s24, s25, s26, s27, s28, s29, rfl, h⟩ := hI
          skip
          go_simp
          exact hK _ _ ⟨s3, s4, s20, _, s22, s23, s24, s25, s26, s27, s28, s29, rfl, { c0 := h.c0, c1 := fun _ => rfl, c2 := h.c2, cL := h.cL, c4 := h.c4, c5 := h.c5, c6 := h.c6, c7 := h.c7, c8 := h.c8, cH := h.cH, cb := h.cb, cm := h.cm, c10 := h.c10, c11 := h.c11 }⟩
        · intro D a W hI hD he K hK
          obtain ⟨s3, s4, s20, s21, s22, s23, s24, s25, s26, s27, s28, s29, rfl, h⟩ := hI
          have d1 : D 1 = true := he ⟨1, .data⟩ (by simp) rfl
          obtain rfl := h.c1 d1
          go_simp
          exact hK _ _ ⟨s3, s4, s20, _, _, s23, s24, s25, s26, s27, s28, s29, rfl, { c0 := h.c0, c1 := h.c1, c2 := fun _ => ⟨_, rfl, h.cm, by simp⟩, cL := h.cL.imp (fun x => ⟨x.1, x.2.alloc _⟩) (fun x => ⟨x.1, by obtain ⟨g, c, e, ho⟩ := x.2; exact ⟨g, c, e, ho.alloc _⟩⟩), c4 := h.c4, c5 := h.c5, c6 := h.c6, c7 := h.c7, c8 := fun d => by obtain ⟨p, e, hp, hc⟩ := h.c8 d; exact ⟨p, e, hp, Lib.cell?_alloc_some _ hc⟩, cH := h.cH.imp (fun x => ⟨x.1, x.2.alloc _⟩) (fun x => ⟨x.1, by obtain ⟨g, c, e, ho⟩ := x.2; exact ⟨g, c, e, ho.alloc _⟩⟩), cb := h.cb.alloc (Nat.le_trans hb.size h.cm) _, cm := by have := h.cm; simp; omega, c10 := h.c10, c11 := h.c11 }⟩
        · intro D a W hI hD he K hK
          obtain ⟨s3, s4, s20, s21, s22, s23, s24, s25, s26, s27, s28, s29, rfl, h⟩ := hI
          have d0 : D 0 = true := he ⟨0, .data⟩ (by simp) rfl
          have d2 : D 2 = true := he ⟨2, .data⟩ (by simp) rfl
          obtain rfl := h.c0 d0
          obtain ⟨p, rfl, hp, hpc⟩ := h.c2 d2
          have hL : W.ownsRow w.heap.size 22 1 s20 k vl := (h.cL.resolve_right fun hh => by rw [hD] at hh; cases hh.1).2
          have h10 := (h.c10.resolve_right fun hh => by have := hh.2.2.1; rw [hD] at this; cases this)
          refine step_append_lies _ rfl (.tmp 20) (.tmp 22) 30 rfl w.heap.size 22 i1 (.slice none 0 0) 1 24 Try.underlying30 hji hy0 hy1 hy2 rfl (by decide) s20 k vl rfl hL ⟨p, 0, none⟩ 1 1 [.slice (some ⟨bx, ox, none⟩) lx cx] rfl rfl (news1 hpc) (by simp [Value.oneCell']) (by decide) (by rw [maxLen_eq']; omega) (by omega) (Nat.le_trans hb.size h.cm) _ rfl ?_
          intro g c W' hown hgr _ hlt
          exact hK _ _ ⟨s3, s4, s20, s21, _, _, s24, s25, s26, s27, s28, s29, rfl, { c0 := h.c0, c1 := h.c1, c2 := fun _ => ⟨p, rfl, hp, hgr.cell hpc (fun hh => by have := hnl p hh.symm; omega)⟩, cL := .inr ⟨rfl, g, c, rfl, hown⟩, c4 := h.c4, c5 := h.c5, c6 := h.c6, c7 := h.c7, c8 := fun d => by obtain ⟨p', e, hp', hc'⟩ := h.c8 d; exact ⟨p', e, hp', hgr.cell hc' (fun hh => by have := hnl p' hh.symm; omega)⟩, cH := h.cH.imp (fun x => ⟨x.1, two_kept x.2 hL (by decide) hgr⟩) (fun x => ⟨x.1, by obtain ⟨g', c', e, ho⟩ := x.2; exact ⟨g', c', e, two_kept ho hL (by decide) hgr⟩⟩), cb := h.cb.grown hgr (Nat.le_trans hb.size h.cm) (fun q hq => (hL.lt q hq).1), cm := Nat.le_trans h.cm hgr.size, c10 := .inl h10, c11 := h.c11 }⟩
        · intro D a W hI hD he K hK
          obtain ⟨s3, s4, s20, s21, s22, s23, s24, s25, s26, s27, s28, s29, rfl, h⟩ := hI
          obtain ⟨_, rfl⟩ := (h.c11.resolve_right fun hh => by have := hh.2.1; rw [hD] at this; cases this)
          go_simp
          exact hK _ _ ⟨s3, s4, s20, s21, s22, s23, _, s25, s26, s27, s28, s29, rfl, { c0 := h.c0, c1 := h.c1, c2 := h.c2, cL := h.cL, c4 := fun _ => rfl, c5 := h.c5, c6 := h.c6, c7 := h.c7, c8 := h.c8, cH := h.cH, cb := h.cb, cm := h.cm, c10 := h.c10, c11 := .inl ⟨(h.c11.resolve_right fun hh => by have := hh.2.1; rw [hD] at this; cases this).1, rfl⟩ }⟩
        · intro D a W hI hD he K hK
          obtain ⟨s3, s4, s20, s21, s22, s23, s24, s25, s26, s27, s28, s29, rfl, h⟩ := hI
          skip
          go_simp
          exact hK _ _ ⟨s3, s4, s20, s21, s22, s23, s24, _, s26, s27, s28, s29, rfl, { c0 := h.c0, c1 := h.c1, c2 := h.c2, cL := h.cL, c4 := h.c4, c5 := fun _ => rfl, c6 := h.c6, c7 := h.c7, c8 := h.c8, cH := h.cH, cb := h.cb, cm := h.cm, c10 := h.c10, c11 := h.c11 }⟩
        · intro D a W hI hD he K hK
          obtain ⟨s3, s4, s20, s21, s22, s23, s24, s25, s26, s27, s28, s29, rfl, h⟩ := hI
          have d5 : D 5 = true := he ⟨5, .data⟩ (by simp) rfl
          obtain rfl := h.c5 d5
          go_simp
          exact hK _ _ ⟨s3, s4, s20, s21, s22, s23, s24, _, _, s27, s28, s29, rfl, { c0 := h.c0, c1 := h.c1, c2 := h.c2, cL := h.cL, c4 := h.c4, c5 := h.c5, c6 := fun _ => rfl, c7 := h.c7, c8 := h.c8, cH := h.cH, cb := h.cb, cm := h.cm, c10 := h.c10, c11 := h.c11 }⟩
        · intro D a W hI hD he K hK
          obtain ⟨s3, s4, s20, s21, s22, s23, s24, s25, s26, s27, s28, s29, rfl, h⟩ := hI
          have d6 : D 6 = true := he ⟨6, .data⟩ (by simp) rfl
          obtain rfl := h.c6 d6
          have hcw : W.cell? ⟨bx, ox, none⟩ = some (.int .i64 n) := (h.cb.cell (p := ⟨bx, ox, none⟩) hbxw).trans hcx0'
          go_simp
          exact hK _ _ ⟨s3, s4, s20, s21, s22, s23, s24, s25, _, _, s28, s29, rfl, { c0 := h.c0, c1 := h.c1, c2 := h.c2, cL := h.cL, c4 := h.c4, c5 := h.c5, c6 := h.c6, c7 := fun _ => rfl, c8 := h.c8, cH := h.cH, cb := h.cb, cm := h.cm, c10 := h.c10, c11 := h.c11 }⟩
        · intro D a W hI hD he K hK
          obtain ⟨s3, s4, s20, s21, s22, s23, s24, s25, s26, s27, s28, s29, rfl, h⟩ := hI
          have d7 : D 7 = true := he ⟨7, .data⟩ (by simp) rfl
          obtain rfl := h.c7 d7
          go_simp
          exact hK _ _ ⟨s3, s4, s20, s21, s22, s23, s24, s25, s26, _, _, s29, rfl, { c0 := h.c0, c1 := h.c1, c2 := fun d => by obtain ⟨p, e, hp, hc⟩ := h.c2 d; exact ⟨p, e, hp, Lib.cell?_alloc_some _ hc⟩, cL := h.cL.imp (fun x => ⟨x.1, x.2.alloc _⟩) (fun x => ⟨x.1, by obtain ⟨g, c, e, ho⟩ := x.2; exact ⟨g, c, e, ho.alloc _⟩⟩), c4 := h.c4, c5 := h.c5, c6 := h.c6, c7 := h.c7, c8 := fun _ => ⟨_, rfl, h.cm, by simp⟩, cH := h.cH.imp (fun x => ⟨x.1, x.2.alloc _⟩) (fun x => ⟨x.1, by obtain ⟨g, c, e, ho⟩ := x.2; exact ⟨g, c, e, ho.alloc _⟩⟩), cb := h.cb.alloc (Nat.le_trans hb.size h.cm) _, cm := by have := h.cm; simp; omega, c10 := h.c10, c11 := h.c11 }⟩
        · intro D a W hI hD he K hK
          obtain ⟨s3, s4, s20, s21, s22, s23, s24, s25, s26, s27, s28, s29, rfl, h⟩ := hI
          have d4 : D 4 = true := he ⟨4, .data⟩ (by simp) rfl
          have d8 : D 8 = true := he ⟨8, .data⟩ (by simp) rfl
          have d3 : D 3 = true := he ⟨3, .chain⟩ (by simp) rfl
          obtain rfl := h.c4 d4
          obtain ⟨p, rfl, hp, hpc⟩ := h.c8 d8
          have hH : W.ownsRow w.heap.size 3 1 s24 k hv := (h.cH.resolve_right fun hh => by rw [hD] at hh; cases hh.1).2
          have h11 := (h.c11.resolve_right fun hh => by have := hh.2.2.1; rw [hD] at this; cases this)
          refine step_append_lies _ rfl (.tmp 24) (.tmp 28) 22 rfl w.heap.size 3 i0 (.int .i64 0) 1 8 Try.underlying22 hii hz0 hz1 hz2 rfl (by decide) s24 k hv rfl hH ⟨p, 0, none⟩ 1 1 [.int .i64 n] rfl rfl (news1 hpc) (by simp [Value.oneCell']) (by decide) (by rw [maxLen_eq']; omega) (by omega) (Nat.le_trans hb.size h.cm) _ rfl ?_
          intro g c W' hown hgr _ hlt
          exact hK _ _ ⟨s3, s4, s20, s21, s22, s23, s24, s25, s26, s27, _, _, rfl, { c0 := h.c0, c1 := h.c1, c2 := fun d => by obtain ⟨p', e, hp', hc'⟩ := h.c2 d; exact ⟨p', e, hp', hgr.cell hc' (fun hh => by have := hnh p' hh.symm; omega)⟩, cL := h.cL.imp (fun x => ⟨x.1, two_kept x.2 hH (by decide) hgr⟩) (fun x => ⟨x.1, by obtain ⟨g', c', e, ho⟩ := x.2; exact ⟨g', c', e, two_kept ho hH (by decide) hgr⟩⟩), c4 := h.c4, c5 := h.c5, c6 := h.c6, c7 := h.c7, c8 := fun _ => ⟨p, rfl, hp, hgr.cell hpc (fun hh => by have := hnh p hh.symm; omega)⟩, cH := .inr ⟨rfl, g, c, rfl, hown⟩, cb := h.cb.grown hgr (Nat.le_trans hb.size h.cm) (fun q hq => (hH.lt q hq).1), cm := Nat.le_trans h.cm hgr.size, c10 := h.c10, c11 := .inl h11 }⟩
        · intro D a W hI hD he K hK
          obtain ⟨s3, s4, s20, s21, s22, s23, s24, s25, s26, s27, s28, s29, rfl, h⟩ := hI
          have d3 : D 3 = true := he ⟨3, .data⟩ (by simp) rfl
          have d0 : D 0 = true := he ⟨0, .phase⟩ (by simp) rfl
          go_simp
          exact hK _ _ ⟨_, s4, s20, s21, s22, s23, s24, s25, s26, s27, s28, s29, rfl, { c0 := h.c0, c1 := h.c1, c2 := h.c2, cL := h.cL, c4 := h.c4, c5 := h.c5, c6 := h.c6, c7 := h.c7, c8 := h.c8, cH := h.cH, cb := h.cb, cm := h.cm, c10 := .inr ⟨rfl, d0, d3, rfl⟩, c11 := h.c11 }⟩
        · intro D a W hI hD he K hK
          obtain ⟨s3, s4, s20, s21, s22, s23, s24, s25, s26, s27, s28, s29, rfl, h⟩ := hI
          have d9 : D 9 = true := he ⟨9, .data⟩ (by simp) rfl
          have d4 : D 4 = true := he ⟨4, .phase⟩ (by simp) rfl
          go_simp
          exact hK _ _ ⟨s3, _, s20, s21, s22, s23, s24, s25, s26, s27, s28, s29, rfl, { c0 := h.c0, c1 := h.c1, c2 := h.c2, cL := h.cL, c4 := h.c4, c5 := h.c5, c6 := h.c6, c7 := h.c7, c8 := h.c8, cH := h.cH, cb := h.cb, cm := h.cm, c10 := h.c10, c11 := .inr ⟨rfl, d4, d9, rfl⟩ }⟩
    · have hk' : k = B.length := by omega
      have hvt : vs.take k = vs := by rw [List.take_of_length_le (by omega)]
      rw [hvt] at hownl
      have hhv : headVals B k = (B.map headI).map (Value.int .i64) := by unfold headVals; rw [hk', List.take_length]
      rw [hhv] at hownh
      clear hvt hhv
      obtain ⟨ah, ch, rfl⟩ := own_isSlice hownh
      have hih : Ints wr (.slice ah k ch) (B.map headI) := Ints_of_own (own_cast hownh (by simp [hk']) rfl)
      have hone : ∀ i (h : i < B.length), Ints wr (vs[i]'(by omega)) B[i] := fun i h => (hi i h).below hb
      have HI := Lib.hid hone
      have HOH := Lib.hid hownh
      have hi0 := Lib.hid hi
      have HK := Lib.hid hk'
      have HIH := Lib.hid hih
      clear hone hk' hih hi hc hownh
      by_cases hB0 : B.length = 0
      · have hBn : B = [] := List.eq_nil_of_length_eq_zero hB0
        have hRR := HR.out
        rw [hBn] at hRR
        have hz : mergeF (total ([] ++ [List.map headI []]) + 1) [] (ne ([] ++ [List.map headI []])) = ([], []) := rfl
        rw [hz] at hRR
        have HRR := Lib.hid hRR
        clear hz
        have hk0 : k = 0 := by have := HK.out; omega
        obtain ⟨al, cl, rfl⟩ := own_isSlice hownl
        subst hk0
        clear hRR hBn
        have HB0 := Lib.hid hB0
        clear hB0 HI hi0 hB
        have hBz : ¬ 0 < B.length := by have := HB0.out; omega
        go_wp2
        refine wp_loop_rounds 1 ?_
        rw [rounds_succ]
        go_wp2
        go_ret2
        exact ⟨_, _, rfl, by rw [← HRR.out]; exact RowOf.nil _ _, by rw [← HRR.out]; exact ⟨[], rfl, RowOf.nil _ _, fun i h => by simp at h⟩, hb, fun k hk => by simp [Value.ownBlock] at hk⟩
      · have hkp : (0 : Int) < (k : Int) := by have := HK.out; omega
        go_wp2_with (at_builtin; refine wpList_append_own _ rfl _ _ 30 rfl w.heap.size 22 i1 (.slice none 0 0) 1 24 Try.underlying30 hji hy0 hy1 hy2 rfl (by decide) _ _ _ rfl (hownl.alloc _) ⟨wr.heap.size, 0, none⟩ 1 1 [.slice ah k ch] rfl rfl ?d1 ?d2 ?d3 ?d4 ?d5 ?_)
        case d1 => exact cell_one_new _ _ _
        case d2 => simp [Value.oneCell']
        case d3 => rw [maxLen_eq']; omega
        case d4 => omega
        case d5 => have := hb.size; simp; omega
        intro v3 wm hown2 hgr2 _
        have hbm : Below w.heap.size w wm := (hb.alloc hb.size _).grown hgr2 (by have := hb.size; simp; omega) (fun q hq => (hownl.lt q hq).1)
        have hgr3 : wr.grownBy wm u3.ownBlock := grown_trans (World.grownBy_alloc wr _ _) hgr2
        have hel : RowsAt wm (vs ++ [Value.slice ah k ch]) (B ++ [B.map headI]) := by
          refine RowsAt.snoc ?_ ?_
          · exact ⟨hl, fun i h => (hi0.out i h).below hbm⟩
          · exact HIH.out.grown hgr3 (by
              rcases own_apart HOH.out hownl (by decide) with h | h
              · rw [h]; cases u3.ownBlock <;> simp
              · exact .inl h)
        have hnel : ∀ x ∈ B ++ [B.map headI], x ≠ [] := by
          intro x hx
          rcases List.mem_append.1 hx with h | h
          · exact HNE.out x h
          · simp at h; rw [h]; intro e; have := congrArg List.length e; simp at this; exact hB0 (by rw [this]; rfl)
        have hRR := HR.out
        rw [ne_self hnel] at hRR
        have hown3 : wm.ownsRow w.heap.size 22 1 v3 (vs ++ [Value.slice ah k ch]).length (vs ++ [Value.slice ah k ch]) := own_cast hown2 (by simp; omega) rfl
        have hl9 : (vs ++ [Value.slice ah k ch]).length ≤ 9 := by simp; omega
        have htl : total (B ++ [B.map headI]) ≤ 1010 := by rw [total_append, total_cons]; simp [total] at *; omega
        clear hown2 hgr2 hgr3 hownl HIH HOH HI
        generalize vs ++ [Value.slice ah k ch] = cs0 at *
        generalize B ++ [B.map headI] = B0 at *
        have HRR := Lib.hid hRR
        clear hRR
        go_wp2
        go_loopg [2, 3] (total B0 + 1) (fun f s2 s3 wi => ∃ cs B' outl, wi.ownsRow w.heap.size 22 1 s3 cs.length cs ∧ RowsAt wm cs B' ∧ (∀ x ∈ B', x ≠ []) ∧
          wi.ownsRow wm.heap.size 3 1 s2 outl.length (intVals outl) ∧ Below wm.heap.size wm wi ∧ Hid (mergeF f outl B' = R) ∧ total B' < f ∧ outl.length + total B' ≤ total B0 ∧ cs.length ≤ 9)
        case atStart => exact ⟨cs0, B0, [], hown3, hel, hnel, World.ownsRow_nil _ _ _ _, Below.refl _ _, HRR, by omega, by simp, hl9⟩
        case round =>
          obtain ⟨cs, B', outl, hown4, hel4, hne4, hout4, hbi, hM, hf, hbd, hl4⟩ := hrel
          obtain ⟨a4, c4, rfl⟩ := own_isSlice hown4
          have hrow4 := Row_of_own hown4
          have hrows := (hel4.below hbi).rows hown4
          have hlen4 := hel4.1
          obtain ⟨f', rfl⟩ : ∃ f', gk = f' + 1 := ⟨gk - 1, by omega⟩
          obtain ⟨a4', c4', e4, hl4', hm4, hc4⟩ := id hrow4
          simp only [Value.slice.injEq, true_and] at e4
          obtain ⟨rfl, rfl⟩ := e4
          have HC4 := Lib.hid hc4
          have HL4 := Lib.hid hlen4
          clear hc4 hlen4 hrow4
          by_cases hp : 0 < cs.length
          · have hp' : (0 : Int) < (cs.length : Int) := by omega
            go_wp2
            go_loop [7, 8, 43] (fun s7 s8 s43 => ∃ j : Nat, ∃ c : Option Int, j ≤ cs.length ∧ s43 = .int .i64 j ∧ s8 = .bool c.isSome ∧ s7 = .int .i64 (c.getD 0) ∧ Hid (c = cand B' (B'.take j))) (fun _ _ s43 => cs.length - (intOf s43).toNat)
            case atStart => exact ⟨0, none, Nat.zero_le _, rfl, rfl, rfl, rfl⟩
            case round =>
              obtain ⟨j, c, hj, rfl, rfl, rfl, hcc⟩ := hrel
              by_cases hlt : j < cs.length
              · have hjB : j < B'.length := by have := HL4.out; omega
                obtain ⟨b, off, rfl, hcell⟩ := HC4.out j hlt
                obtain ⟨ax, cx, hvx, hlx, hmx, hcx⟩ := (hel4.2 j hjB).below hbi
                have hpos : 0 < B'[j].length := List.length_pos_iff.2 (hne4 _ (List.getElem_mem hjB))
                obtain ⟨bx, ox, rfl, hcx0⟩ := hcx 0 hpos
                rw [headI_getElem _ hpos] at hcx0
                have hcx1 : wr.cell? ⟨bx, ox, none⟩ = some (.int .i64 (headI B'[j])) := hcx0
                have hsn := cand_snoc B' (B'.take j) B'[j]
                rw [← List.take_succ_eq_append_getElem hjB, ← hcc.out] at hsn
                have HS := Lib.hid hsn
                have hcell' : wr.cell? ⟨b, off + j, none⟩ = some (.slice (some ⟨bx, ox, none⟩) B'[j].length cx) := by rw [← hvx]; exact hcell
                clear hcx hcx0 hcell hvx hsn
                have hit := inTail_any _ B' (headI B'[j]) wr hrows hne4
                generalize headI B'[j] = n at *
                generalize B'[j].length = lx at *
                cases c with
                | some m =>
                  clear hit
                  go_wp2
                  go_round
                  case rel => exact ⟨j + 1, some m, by omega, by go_num, rfl, rfl, HS.out.symm⟩
                  case measure => simp [intOf]; omega
                | none =>
                  cases hb' : blocked B' n with
                  | true =>
                    rw [hb'] at hit
                    have HBK := Lib.hid hb'
                    clear hb'
                    go_wp2_with (go_at_call 73; refine hit.mono ?_; rintro e w1 ⟨rfl, rfl⟩)
                    go_round
                    case rel => exact ⟨j + 1, none, by omega, by go_num, rfl, rfl, by unfold Hid; rw [HS.out, HBK.out]; rfl⟩
                    case measure => simp [intOf]; omega
                  | false =>
                    rw [hb'] at hit
                    have HBK := Lib.hid hb'
                    clear hb'
                    go_wp2_with (go_at_call 73; refine hit.mono ?_; rintro e w1 ⟨rfl, rfl⟩)
                    go_round
                    case rel => exact ⟨j + 1, some n, by omega, by go_num, rfl, rfl, by unfold Hid; rw [HS.out, HBK.out]; rfl⟩
                    case measure => simp [intOf]; omega
              · have hcd : c = cand B' B' := by rw [hcc.out, List.take_of_length_le (by have := HL4.out; omega)]
                cases c with
                | none =>
                  have hRe := hM.out.symm.trans (mergeF_none hcd.symm)
                  have HRe := Lib.hid hRe
                  clear hRe hcd
                  go_wp2
                  go_ret2
                  exact ⟨_, _, rfl, by rw [HRe.out]; exact Ints_of_own hout4, by rw [HRe.out]; exact hrows, ext_trans hbm hbi, fun k hk => Nat.le_trans hbm.size (hout4.lt k hk).1⟩
                | some n =>
                  have hRe := (mergeF_some (k := f') (out := outl) hcd.symm).symm.trans hM.out
                  have HRe := Lib.hid hRe
                  have hdec := total_beh n B' hne4 (cand_mem hcd.symm)
                  clear hRe hcd hcc
                  have hsz : w.heap.size ≤ wm.heap.size := hbm.size
                  have hgl := fun q hq => (hown4.lt q hq).2
                  go_wp2_with (at_builtin; refine wpList_append_own _ rfl _ _ 22 rfl wm.heap.size 3 i0 (.int .i64 0) 1 8 Try.underlying22 hii hz0 hz1 hz2 rfl (by decide) _ _ _ rfl (hout4.alloc _) ⟨wr.heap.size, 0, none⟩ 1 1 [.int .i64 n] rfl rfl ?f1 ?f2 ?f3 ?f4 ?f5 ?_)
                  case f2 => simp [Value.oneCell']
                  case f3 => rw [maxLen_eq']; omega
                  case f4 => omega
                  case f5 => have := hbi.size; simp; omega
                  intro vt w5 hout5 hgr5 _
                  have hown5 := two_kept (hown4.alloc (.cells #[.int .i64 n] 3)) (hout4.alloc (.cells #[.int .i64 n] 3)) (by decide) hgr5
                  have hb5 : Below wm.heap.size wm w5 := (hbi.alloc hbi.size _).grown hgr5 (by have := hbi.size; simp; omega) (fun q hq => (hout4.lt q hq).1)
                  have hout5' : w5.ownsRow wm.heap.size 3 1 vt (outl ++ [n]).length (intVals (outl ++ [n])) := own_cast hout5 (by simp) (by simp [intVals])
                  have hrow5 := Row_of_own hown5
                  obtain ⟨_, _, e5, _, _, hc5⟩ := id hrow5
                  simp only [Value.slice.injEq, true_and] at e5
                  obtain ⟨rfl, rfl⟩ := e5
                  have HC5 := Lib.hid hc5
                  have hL2 : (outl ++ [n]).length = outl.length + 1 := by simp
                  generalize outl ++ [n] = outl2 at *
                  have HL2 := Lib.hid hL2
                  clear hc5 hrow5 hout5 hgr5 hown4 hout4 hbi hrows HC4 hL2
                  go_wp2
                  obtain ⟨wo, hwo⟩ : ∃ wo : World, wo = w5 := ⟨_, rfl⟩
                  subst hwo
                  go_loopg [11, 13, 71] cs.length (fun q s11 _ s71 wi => ∃ j : Nat, ∃ xs, j ≤ cs.length ∧ cs.length - j ≤ q ∧ s71 = .int .i64 j ∧ wi.ownsRow wo.heap.size 22 1 s11 xs.length xs ∧ RowsAt wm xs (ne ((B'.take j).map (beh n))) ∧ xs.length ≤ j ∧ Below wo.heap.size wo wi)
                  case atStart => exact ⟨0, [], Nat.zero_le _, by omega, rfl, World.ownsRow_nil _ _ _ _, RowsAt.nil _, Nat.le_refl _, Below.refl _ _⟩
                  case round =>
                    obtain ⟨j, xs, hj, hq, rfl, hownx, hrx, hxj, hbo⟩ := hrel
                    by_cases hlt : j < cs.length
                    · have hjB : j < B'.length := by have := HL4.out; omega
                      obtain ⟨b, off, rfl, hcell⟩ := HC5.out j hlt
                      have hcell1 : wr.cell? ⟨b, off + j, none⟩ = some cs[j] := by rw [hbo.cell (World.block_lt_of_cell? _ _ hcell)]; exact hcell
                      have hj4 := hel4.2 j hjB
                      have hpos : 0 < B'[j].length := List.length_pos_iff.2 (hne4 _ (List.getElem_mem hjB))
                      obtain ⟨u, hu, hsl, _⟩ := Ints.tail hj4 hpos
                      have hj5 := hj4.below (hb5.trans (hbo.mono (by have := hb5.size; omega)))
                      obtain ⟨ax, cx, hvx, hlx, hmx, hcx⟩ := hj5
                      obtain ⟨bx, ox, rfl, hcx0⟩ := hcx 0 hpos
                      rw [headI_getElem _ hpos] at hcx0
                      have hcx1 : wr.cell? ⟨bx, ox, none⟩ = some (.int .i64 (headI B'[j])) := hcx0
                      have hmap : (B'.take (j + 1)).map (beh n) = (B'.take j).map (beh n) ++ [beh n B'[j]] := by rw [List.take_succ_eq_append_getElem hjB, List.map_append]; rfl
                      have hnes := ne_snoc ((B'.take j).map (beh n)) (beh n B'[j])
                      rw [← hmap] at hnes
                      rw [hvx] at hcell1 hsl hj4
                      clear hcx hcx0 hcell hvx hmap
                      obtain ⟨au, nu, cu, hus⟩ := hu.isSlice
                      have hun : nu = B'[j].tail.length := by obtain ⟨_, _, e, _⟩ := hu; rw [hus] at e; simp at e; rw [e.2.1]; simp
                      subst hus
                      have hxl : xs.length ≤ 9 := by omega
                      cases hq2 : (headI B'[j] == n) with
                      | true =>
                        have hbeh : beh n B'[j] = B'[j].tail := by unfold beh; rw [hq2]; rfl
                        rw [hbeh, ← hun] at hnes
                        generalize headI B'[j] = y at *
                        generalize B'[j].length = lx at *
                        by_cases h0 : nu = 0
                        · rw [if_pos h0] at hnes
                          have HN := Lib.hid hnes
                          have h0' : ¬ (0 : Int) < (nu : Int) := by omega
                          have HU := Lib.hid hun
                          clear h0 hnes hun
                          go_wp2
                          go_roundg (cs.length - (j + 1))
                          case measure => omega
                          case rel => exact ⟨j + 1, xs, by omega, by omega, by go_num, hownx, by rw [HN.out]; exact hrx, by omega, hbo⟩
                        · rw [if_neg h0] at hnes
                          have h0' : (0 : Int) < (nu : Int) := by omega
                          have HU := Lib.hid hun
                          have HN := Lib.hid hnes
                          have hnes := HN.out
                          clear h0 hnes hun
                          go_wp2_with (at_builtin; refine wpList_append_own _ rfl _ _ 30 rfl wo.heap.size 22 i1 (.slice none 0 0) 1 24 Try.underlying30 hji hy0 hy1 hy2 rfl (by decide) _ _ _ rfl (hownx.alloc _) ⟨wr.heap.size, 0, none⟩ 1 1 [Value.slice au nu cu] rfl rfl ?g1 ?g2 ?g3 ?g4 ?g5 ?_)
                          case g1 => exact cell_one_new _ _ _
                          case g2 => simp [Value.oneCell']
                          case g3 => rw [maxLen_eq']; omega
                          case g4 => omega
                          case g5 => have := hbo.size; simp; omega
                          intro vx w6 hown6 hgr6 _
                          have hb6 : Below wo.heap.size wo w6 := (hbo.alloc hbo.size _).grown hgr6 (by have := hbo.size; simp; omega) (fun q hq => (hownx.lt q hq).1)
                          have hown6' : w6.ownsRow wo.heap.size 22 1 vx (xs ++ [Value.slice au nu cu]).length (xs ++ [Value.slice au nu cu]) := own_cast hown6 (by simp) rfl
                          clear hown6 hgr6
                          go_wp2
                          go_roundg (cs.length - (j + 1))
                          case measure => omega
                          case rel => exact ⟨j + 1, _, by omega, by omega, by go_num, hown6', by rw [HN.out]; exact hrx.snoc hu, by simp; omega, hb6⟩
                      | false =>
                        have hbeh : beh n B'[j] = B'[j] := by unfold beh; rw [hq2]; rfl
                        rw [hbeh] at hnes
                        rw [if_neg (by omega)] at hnes
                        have HN := Lib.hid hnes
                        generalize headI B'[j] = y at *
                        have hpl : (0 : Int) < (B'[j].length : Int) := by omega
                        clear hnes hsl hu hun
                        go_wp2_with (at_builtin; refine wpList_append_own _ rfl _ _ 30 rfl wo.heap.size 22 i1 (.slice none 0 0) 1 24 Try.underlying30 hji hy0 hy1 hy2 rfl (by decide) _ _ _ rfl (hownx.alloc _) ⟨wr.heap.size, 0, none⟩ 1 1 [Value.slice (some ⟨bx, ox, none⟩) B'[j].length cx] rfl rfl ?h1 ?h2 ?h3 ?h4 ?h5 ?_)
                        case h1 => exact cell_one_new _ _ _
                        case h2 => simp [Value.oneCell']
                        case h3 => rw [maxLen_eq']; omega
                        case h4 => omega
                        case h5 => have := hbo.size; simp; omega
                        intro vx w6 hown6 hgr6 _
                        have hb6 : Below wo.heap.size wo w6 := (hbo.alloc hbo.size _).grown hgr6 (by have := hbo.size; simp; omega) (fun q hq => (hownx.lt q hq).1)
                        have hown6' : w6.ownsRow wo.heap.size 22 1 vx (xs ++ [Value.slice (some ⟨bx, ox, none⟩) B'[j].length cx]).length (xs ++ [Value.slice (some ⟨bx, ox, none⟩) B'[j].length cx]) := own_cast hown6 (by simp) rfl
                        clear hown6 hgr6
                        go_wp2
                        go_roundg (cs.length - (j + 1))
                        case measure => omega
                        case rel => exact ⟨j + 1, _, by omega, by omega, by go_num, hown6', by rw [HN.out]; exact hrx.snoc hj4, by simp; omega, hb6⟩
                    · have hjE : (B'.take j) = B' := List.take_of_length_le (by have := HL4.out; omega)
                      rw [hjE] at hrx
                      have hs : strip n B' = ne (B'.map (beh n)) := rfl
                      rw [← hs] at hrx
                      have hts : total (strip n B') < f' := by rw [hs, total_ne]; omega
                      have hte : total (strip n B') < total B' := by rw [hs, total_ne]; omega
                      clear hjE hs
                      go_wp2
                      go_roundg f'
                      case measure => omega
                      case rel => exact ⟨xs, strip n B', outl2, own_base hownx (by have := hb5.size; omega), hrx, ne_mem _, own_below hout5' hbo, hb5.trans (hbo.mono hb5.size), HRe, hts, by have := HL2.out; omega, by omega⟩
          · have hB0' : B' = [] := List.eq_nil_of_length_eq_zero (by have := HL4.out; omega)
            subst hB0'
            have hRe := hM.out.symm.trans (mergeF_none (show cand [] [] = none from rfl))
            have HRe := Lib.hid hRe
            clear hRe
            go_wp2
            go_ret2
            exact ⟨_, _, rfl, by rw [HRe.out]; exact Ints_of_own hout4, by rw [HRe.out]; exact ⟨[], rfl, RowOf.nil _ _, fun i h => by simp at h⟩, ext_trans hbm hbi, fun k hk => Nat.le_trans hbm.size (hout4.lt k hk).1⟩
end Go.Proofs.Ytbickehhnkhabaa
