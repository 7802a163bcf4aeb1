/- LineageBlameIsACircle: for every list of linearizations the law returns true and leaves its argument alone. No condition. -/
import Derived.Test.YtbickehhnkhabaaBl5
import Derived.Test.YtbickehhnkhabaaOpen
import Derived.Test.YtbickehhnkhabaaLift
namespace Go.Proofs.Ytbickehhnkhabaa
open Go.RowKit Go.ChangeShapes Go.WideShapes Go.ChangeAt

theorem blame_zero {B : List (List Int)} (h : (blameF B).2.1 = 0) : (∀ y ∈ B, y ≠ []) ∧ B.length ≤ 8 := by
  by_cases h0 : (chkF B).1 = 0
  · obtain ⟨h1, h2⟩ := chkF_ok h0
    exact ⟨fun y hy => (h2 y hy).1, h1⟩
  · unfold blameF at h; rw [if_pos h0] at h; exact absurd h h0
theorem blame_none {B : List (List Int)} (h : (blameF B).2.1 ≠ 0) : (blameF B).1 = [] := by
  unfold blameF at h ⊢
  split
  · rfl
  · rename_i h0
    rw [if_neg h0] at h
    split
    · rfl
    · rename_i h1; rw [if_neg h1] at h; exact absurd rfl h

set_option maxRecDepth 100000 in
set_option maxHeartbeats 2000000 in
theorem BlameLaw_any (v : Value) (B : List (List Int)) (w : World) (hv : IntRows w v B) (hfit : ∀ y ∈ B, ∀ x ∈ y, Fits x) :
    Calls Try.prog 9 #[v] w fun e w' => e = .returned (.bool true) ∧ Below w.heap.size w w' := by
  obtain ⟨av, cv, rfl⟩ := hv.len
  have h1 := Blame_any _ B w hv hfit
  have href := fun W (hb : Below w.heap.size w W) => Blamed_any _ B W (hv.below hb)
  have hord := fun W (hb : Below w.heap.size w W) => Order_any _ B W (hv.below hb) hfit
  have hah := fun (hn : (∀ y ∈ B, y ≠ []) ∧ B.length ≤ 8) x y W (hb : Below w.heap.size w W) => Ahead_any _ B x y W (hv.below hb) hn.1 hn.2
  have hcodes := Lib.hid (blame_codes B)
  have hlaw := fun h => blame_law (B := B) h
  have hz := fun h => blame_zero (B := B) h
  have hn0 := fun h => blame_none (B := B) h
  obtain ⟨⟨l, fc, fi⟩, hbl⟩ : ∃ r, blameF B = r := ⟨_, rfl⟩
  obtain ⟨⟨ol, ec, ei⟩, hol⟩ : ∃ r, orderF B = r := ⟨_, rfl⟩
  rw [hbl] at h1
  simp only [hbl, hol] at href hord hz hn0
  have hcodes2 := hcodes.out
  rw [hbl, hol] at hcodes2
  have hlaw2 : fc = 0 → 1 < l.length ∧ ∀ i (hi : i < l.length), ∃ e, ∃ he : e < l.length, (i + 1) % l.length = e ∧ aheadF B l[i] l[e] = true := by
    intro h
    have h3 := hlaw (by rw [hbl]; exact h)
    simp only [hbl] at h3
    exact ⟨h3.1, fun i hi => ⟨_, Nat.mod_lt _ (by omega), rfl, h3.2 i hi⟩⟩
  simp only at h1 hcodes2 hz hn0
  clear hlaw hcodes hbl hol
  have HREF := Lib.hid href
  have HORD := Lib.hid hord
  have HAH := Lib.hid hah
  have HLAW := Lib.hid hlaw2
  have HZ := Lib.hid hz
  have HN0 := Lib.hid hn0
  have HCO := Lib.hid hcodes2
  clear href hord hah hlaw2 hz hn0 hcodes2
  go_enter Try.func9, Try.ntmps9
  go_wp2_with (go_at_call 27; refine h1.mono ?_; rintro e w1 ⟨v1, rfl, hi1, hb1⟩; simp only [faultV])
  have hb2 : Below w.heap.size w (w1.alloc (.cells #[.int .i64 fc, .int .i64 fi] 27)) := hb1.alloc hb1.size _
  have hbx := heap_new w1 (.cells #[.int .i64 fc, .int .i64 fi] 27)
  have hi2 := hi1.below (ext_alloc w1 (.cells #[.int .i64 fc, .int .i64 fi] 27))
  have hs : w1.heap.size < (w1.alloc (.cells #[.int .i64 fc, .int .i64 fi] 27)).heap.size := by simp
  have h2 := HREF.out _ hb2
  clear h1 hb1 hi1
  generalize (w1.alloc (.cells #[.int .i64 fc, .int .i64 fi] 27)) = w2 at *
  generalize w1.heap.size = N1 at *
  obtain ⟨a1, c1, rfl⟩ := Ints.len hi2
  refine h2.mono ?_
  rintro e w3 ⟨v2, rfl, hi3, hb3⟩
  simp only [faultV]
  have hbx3 := (hb3.block N1 hs).trans hbx
  obtain ⟨g0, g1, _, g3⟩ := box2 hbx3
  have hi2' := hi2.below hb3
  have hbw := ext_trans hb2 hb3
  clear h2 hbx hi2 hb3 hb2 hs HREF
  have heq := fun W (h1 : Ints W (.slice a1 l.length c1) l) (h2 : Ints W v2 l) => RefInts_any _ v2 l l W h1 h2
  simp only [decide_true] at heq
  have HEQ := Lib.hid heq
  clear heq
  by_cases hfc : fc = 0
  · subst hfc
    have hec : ec = 19 := by have := HCO.out; simpa using this.symm
    subst hec
    obtain ⟨hl1, hlaw⟩ := HLAW.out rfl
    have HLAW2 := Lib.hid hlaw
    have HAH2 := Lib.hid (HAH.out (HZ.out rfl))
    have hl1' : (1 : Int) < (l.length : Int) := by omega
    have hl2' : ¬ ((l.length : Int) = 0) := by omega
    clear hlaw HLAW HAH HZ HN0 HCO
    go_wp2_with (first | (go_at_call 16; refine (HEQ.out _ (hi2'.below (ext_alloc _ _)) (hi3.below (ext_alloc _ _))).mono ?_; rintro e w5 ⟨rfl, hb5⟩; have hbw5 : Below w.heap.size w w5 := (hbw.alloc hbw.size _).trans (hb5.mono (by have := hbw.size; simp; omega))) | (go_at_call 14; refine (HORD.out w5 hbw5).mono ?_; rintro e w6 ⟨v6, rfl, hi6, hb6⟩; simp only [faultV]; have hbx7 := box_alloc ((hb6.block N1 (by have := hb5.size; simp at this; omega)).trans ((hb5.block N1 (by simp; omega)).trans (box_alloc hbx3 (.cells #[.int .i64 0, .int .i64 fi] 27)))) (.cells #[.int .i64 19, .int .i64 ei] 27); obtain ⟨y0, y1, y2, y3⟩ := box2 hbx7))
  
    have hb37 : Below w3.heap.size w3 (w6.alloc (.cells #[.int .i64 19, .int .i64 ei] 27)) := ((ext_alloc w3 _).trans (hb5.mono (by simp))).trans ((hb6.mono (by have := hb5.size; simp at this; omega)).alloc (by have := hb5.size; have := hb6.size; simp at *; omega) _)
    have hbw7 := ext_trans hbw hb37
    have hi7 := hi2'.below hb37
    clear hb37 hb6 hi6 hb5 hbw5 hi3 HEQ HORD hi2'
    generalize w6.alloc (.cells #[.int .i64 19, .int .i64 ei] 27) = w7 at *
    obtain ⟨_, _, ea, hla, hma, hca⟩ := id hi7
    simp only [Value.slice.injEq, true_and] at ea
    obtain ⟨rfl, rfl⟩ := ea
    obtain ⟨bl, o, rfl, -⟩ := hca 0 (by omega)
    have hca' : ∀ i (h : i < l.length), w7.cell? ⟨bl, o + i, none⟩ = some (.int .i64 l[i]) := by
      intro i h
      obtain ⟨b, o', e, hh⟩ := hca i h
      simp only [Option.some.injEq, Addr.mk.injEq, and_true] at e
      obtain ⟨rfl, rfl⟩ := e
      exact hh
    have HCA := Lib.hid hca'
    clear hca hca' hi7
    go_loopg [44] l.length (fun q s44 wr => ∃ i : Nat, i ≤ l.length ∧ l.length - i ≤ q ∧ s44 = .int .i64 i ∧ Below w7.heap.size w7 wr)
    case atStart => exact ⟨0, Nat.zero_le _, by omega, rfl, Below.refl _ _⟩
    case round =>
      obtain ⟨i, hi, hq, rfl, hb⟩ := hrel
      by_cases hlt : i < l.length
      · obtain ⟨e, he, hee, hah⟩ := HLAW2.out i hlt
        have hcall := HAH2.out l[i] l[e] wr (ext_trans hbw7 hb)
        rw [hah] at hcall
        have z1 := HCA.out i hlt
        have z2 := HCA.out e he
        rw [← hb.cell (World.block_lt_of_cell? _ _ z1)] at z1
        rw [← hb.cell (World.block_lt_of_cell? _ _ z2)] at z2
        have hmod : ((i : Int) + 1) % (l.length : Int) = (e : Int) := by
          rw [← hee, Int.natCast_emod]; rfl
        clear hee hah
        obtain ⟨x, hx⟩ : ∃ x, l[i] = x := ⟨_, rfl⟩
        obtain ⟨y, hy⟩ : ∃ y, l[e] = y := ⟨_, rfl⟩
        rw [hx, hy] at hcall
        rw [hx] at z1
        rw [hy] at z2
        clear hx hy
        go_wp2_with (go_at_call 29; refine hcall.mono ?_; rintro e w8 ⟨rfl, hb8⟩)
        go_roundg (l.length - (i + 1))
        case measure => omega
        case rel => exact ⟨i + 1, by omega, by omega, by go_num, ext_trans hb hb8⟩
      · have hbx8 := (hb.block N1 y3).trans hbx7
        obtain ⟨p0, p1, p2, p3⟩ := box2 hbx8
        go_wp2
        go_ret
        exact ⟨ret_bool (by simp), ext_trans hbw7 hb⟩
  · have hfc' : (fc == 0) = false := by simpa using hfc
    have hec' : (ec == 19) = false := by have := HCO.out; simp [hfc] at this; simpa using this
    have hl0 := HN0.out hfc
    subst hl0
    simp only [List.length_nil] at *
    clear HLAW HAH HZ HN0 HCO hfc
    go_wp2_with (first | (go_at_call 16; refine (HEQ.out _ (hi2'.below (ext_alloc _ _)) (hi3.below (ext_alloc _ _))).mono ?_; rintro e w5 ⟨rfl, hb5⟩; have hbw5 : Below w.heap.size w w5 := (hbw.alloc hbw.size _).trans (hb5.mono (by have := hbw.size; simp; omega))) | (go_at_call 14; refine (HORD.out w5 hbw5).mono ?_; rintro e w6 ⟨v6, rfl, hi6, hb6⟩; simp only [faultV]; have hbx7 := box_alloc ((hb6.block N1 (by have := hb5.size; simp at this; omega)).trans ((hb5.block N1 (by simp; omega)).trans (box_alloc hbx3 (.cells #[.int .i64 fc, .int .i64 fi] 27)))) (.cells #[.int .i64 ec, .int .i64 ei] 27); obtain ⟨y0, y1, y2, y3⟩ := box2 hbx7))
  
    have hb37 : Below w3.heap.size w3 (w6.alloc (.cells #[.int .i64 ec, .int .i64 ei] 27)) := ((ext_alloc w3 _).trans (hb5.mono (by simp))).trans ((hb6.mono (by have := hb5.size; simp at this; omega)).alloc (by have := hb5.size; have := hb6.size; simp at *; omega) _)
    have hbw7 := ext_trans hbw hb37
    clear hb37 hb6 hi6 hb5 hbw5 hi3 HEQ HORD hi2'
    generalize w6.alloc (.cells #[.int .i64 ec, .int .i64 ei] 27) = w7 at *
    have hfn : (fc != 0) = true := by rw [bne, hfc']; rfl
    go_loopg [44] 0 (fun q s44 wr => s44 = .int .i64 0 ∧ wr = w7)
    case atStart => exact ⟨rfl, rfl⟩
    case round =>
      obtain ⟨rfl, rfl⟩ := hrel
      go_wp2
      go_ret
      exact ⟨ret_bool (by simp), hbw7⟩
end Go.Proofs.Ytbickehhnkhabaa
