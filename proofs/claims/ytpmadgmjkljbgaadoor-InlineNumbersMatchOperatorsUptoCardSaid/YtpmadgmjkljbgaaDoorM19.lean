/- Part 19 of the proof. -/
import Derived.Test.YtpmadgmjkljbgaaDoorM18

/- Walk: fromPlaces. -/
namespace Go.Proofs.YtpmadgmjkljbgaaDoor
open Go.RowKit

theorem dig_VB (l : List Bool) : (dig (VB l)).length ≤ l.length := by
  refine dig_length_le (Nat.lt_of_lt_of_le (VB_lt l) ?_)
  exact Nat.pow_le_pow_left (by omega) _
/-- Only the block g has been written. -/
def But (g : Nat) (w w' : World) : Prop := ∀ k, k < w.heap.size → k ≠ g → w'.heap[k]? = w.heap[k]?
theorem But.refl (g : Nat) (w : World) : But g w w := fun _ _ _ => rfl
theorem But.below {g : Nat} {w w1 w2 : World} (h : But g w w1) (hs : w.heap.size ≤ w1.heap.size) (hb : Below w1.heap.size w1 w2) : But g w w2 := fun k hk hne => (hb.block k (Nat.lt_of_lt_of_le hk hs)).trans (h k hk hne)
theorem But.set {g : Nat} {w w1 : World} (h : But g w w1) (j : Nat) (x : Value) : But g w (w1.setCell ⟨g, j, none⟩ x) := fun k hk hne => by
  rw [Below.heap_setCell _ _ _ _ (by simpa using hne)]; exact h k hk hne
def FromP (g B : Nat) (w : World) (e : Ending) (w' : World) : Prop := ∃ v' zz, e = .returned v' ∧ IntAt w' v' zz ∧ (dig zz.natAbs).length ≤ 1000000 ∧ But g w w' ∧ Below B w w'
set_option maxRecDepth 100000 in
set_option maxHeartbeats 4000000 in
theorem fromPlaces_any (g n c B : Nat) (w : World) (hl : OwnB B n (.slice (some ⟨g, 0, none⟩) n c) w) (hg : g < w.heap.size) (hBs : B ≤ w.heap.size) (hn0 : 0 < n) (hn : n ≤ 400000) :
    Calls Tryd.prog 60 #[(.slice (some ⟨g, 0, none⟩) n c)] w fun e w' => FromP g B w e w' := by
  obtain ⟨ll, hll, hown⟩ := hl
  have hno : n - 1 < n := by omega
  have HO := Lib.hid (show OwnB B n (.slice (some ⟨g, 0, none⟩) n c) w from ⟨ll, hll, hown⟩)
  clear hown hll ll hno
  have hal1 := ext_alloc w (.cells #[.bool false, .slice none 0 0] 41)
  have hal2 := heap_new w (.cells #[.bool false, .slice none 0 0] 41)
  go_enter Tryd.func60, Tryd.ntmps60
  go_upto_region 1 with fail
  generalize (w.alloc (.cells #[.bool false, .slice none 0 0] 41)) = w1 at *
  have hb1 := hal1
  have h1 := hal2
  clear hal1 hal2
  have hgw : g < w.heap.size := hg
  have hO1 := HO.out.below hb1
  obtain ⟨⟨y, hy⟩, -, hBg, -⟩ := hO1.store (k := n - 1) (by omega)
  have hw : IntKind.i64.wrap ((n : Int) - 1) = (n : Int) - 1 := IntWalk.i64_in _ (by omega)
  have hs0 : (0 : Int) ≤ (n : Int) - 1 := by omega
  have hs1 : (1 : Int) ≤ (n : Int) := by omega
  have hs2 : ((n : Int) - 1).toNat = n - 1 := by omega
  have hs3 : (n : Int) - 1 < (n : Int) := by omega
  cases y with
  | false =>
    obtain ⟨lo, hlo, hbits⟩ := hO1.bools
    have HBn := Lib.hid (Binary_any _ lo w1 hbits (by omega))
    have HLo := Lib.hid (show (dig (VB lo)).length ≤ 1000000 from Nat.le_trans (dig_VB lo) (by omega))
    clear hbits hO1 HO
    go_wp2_with fail
    refine HBn.out.mono ?_
    rintro e w2 ⟨v5, rfl, hN5, hb2⟩
    replace h1 := (hb2.block _ (box_lt h1)).trans h1
    have HN5 := Lib.hid hN5
    obtain ⟨a5, c5, rfl⟩ := hN5.slice
    generalize hk5 : VB lo = k5 at *
    have HL5 := HLo
    generalize (dig k5).length = l5 at HN5 ⊢
    clear hN5 hk5 HBn hy hw hs0 hs1 hs2 hs3
    have hbut : But g w w2 := ((But.refl g w).below (Nat.le_refl _) hb1).below hb1.size hb2
    have hbel : Below B w w2 := (hb1.mono hBs).trans (hb2.mono (Nat.le_trans hBs hb1.size))
    have hsz : w.heap.size < w2.heap.size := box_lt h1
    go_wp2_with (refine wpL_store (cells := #[.bool false, .slice a5 l5 c5]) stInt h1 (by rfl) (by rfl) (by rfl) (by rfl) (by rfl) ?_)
    have hs := setRow_facts h1 #[.bool false, .slice a5 l5 c5]
    exact bodyPost_ret (results_cell rfl stInt rfl hs.1 rfl) rfl ⟨_, _, rfl, ⟨_, _, k5, rfl, HN5.out.other h1 noInt_zeroI hs.2.1, rfl⟩, by rw [ZI_abs]; exact HL5.out, fun k hk hne => (hs.2.1 k (by have := hsz; omega) (by omega)).trans (hbut k hk hne), hs.2.2 _ _ (by omega) hbel⟩
  | true =>
    have HO1 := Lib.hid hO1
    clear HO hO1
    go_wp2
    clear hy
    go_loopg [18] n (fun q s18 wr => ∃ k : Nat, k ≤ n ∧ n - k ≤ q ∧ s18 = .int .i64 k ∧ OwnB B n (.slice (some ⟨g, 0, none⟩) n c) wr ∧ wr.heap[w.heap.size]? = some (.cells #[.bool false, .slice none 0 0] 41 (0, 0)) ∧ But g w wr ∧ Below B w wr ∧ w1.heap.size ≤ wr.heap.size)
    case atStart => exact ⟨0, Nat.zero_le _, by omega, rfl, HO1.out, h1, (But.refl g w).below (Nat.le_refl _) hb1, hb1.mono hBs, Nat.le_refl _⟩
    case round =>
      clear h1 HO1
      obtain ⟨k, hk, hq, rfl, ho, h1, hbut, hbel, hsz⟩ := hrel
      by_cases hkn : k < n
      · obtain ⟨⟨x0, hx0⟩, hf0, hg0, hset⟩ := ho.store hkn
        have HSET := Lib.hid (hset (!x0))
        have HBU := Lib.hid (hbut.set k (.bool (!x0)))
        have HBE := Lib.hid (hbel.setCell (p := ⟨g, k, none⟩) hg0 (.bool (!x0)))
        have H1 := Lib.hid (show (wr.setCell ⟨g, k, none⟩ (.bool (!x0))).heap[w.heap.size]? = some (.cells #[.bool false, .slice none 0 0] 41 (0, 0)) by rw [Below.heap_setCell _ _ _ _ (by simp only; omega)]; exact h1)
        have HSZ := Lib.hid (show w1.heap.size ≤ (wr.setCell ⟨g, k, none⟩ (.bool (!x0))).heap.size by simpa [World.setCell] using hsz)
        clear hset ho hbut hbel h1 hsz hw hs0 hs1 hs2 hs3
        go_wp2
        go_roundg (n - (k + 1))
        case measure => omega
        case rel => exact ⟨k + 1, by omega, by omega, by go_num, HSET.out, H1.out, HBU.out, HBE.out, HSZ.out⟩
      · obtain ⟨lo, hlo, hbits⟩ := ho.bools
        have HBn := Lib.hid (Binary_any _ lo wr hbits (by omega))
        have hlen := dig_VB lo
        have HLen := Lib.hid (show (dig (VB lo)).length ≤ 500000 by omega)
        clear hbits ho hlen hw hs0 hs1 hs2 hs3
        go_wp2_with fail
        refine HBn.out.mono ?_
        rintro e w2 ⟨v4, rfl, hN4, hb2⟩
        replace h1 := (hb2.block _ (box_lt h1)).trans h1
        have HN4 := Lib.hid hN4
        have hw12 := Nat.le_trans hb1.size hsz
        clear hN4 HBn
        go_wp2_with fail
        refine (Small_any 1 w2 (by omega)).mono ?_
        rintro e w3 ⟨v6, rfl, hN6, hb3⟩
        replace h1 := (hb3.block _ (box_lt h1)).trans h1
        have HPl := Lib.hid (Plus_any _ _ (VB lo) 1 w3 (HN4.out.below hb3) hN6 (Nat.le_trans HLen.out (by omega)) (by rw [dig_pos (by omega)]; simp [dig_zero]))
        clear hN6
        go_wp2_with fail
        refine HPl.out.mono ?_
        rintro e w4 ⟨v5, rfl, hN5, hb4⟩
        replace h1 := (hb4.block _ (box_lt h1)).trans h1
        have HN5 := Lib.hid hN5
        obtain ⟨a5, c5, rfl⟩ := hN5.slice
        have HL5 := Lib.hid (show (dig (VB lo + 1)).length ≤ 1000000 from Nat.le_trans (dig_add HLen.out (show (dig 1).length ≤ 500000 by rw [dig_pos (by omega)]; simp [dig_zero])) (by omega))
        generalize hk5 : VB lo + 1 = k5 at *
        generalize (dig k5).length = l5 at HN5 ⊢
        clear hN5 hk5 HPl HLen
        have hb24 := ext_trans hb2 (ext_trans hb3 hb4)
        replace hbut := hbut.below hw12 hb24
        replace hbel := hbel.trans (hb24.mono (Nat.le_trans hBs hw12))
        clear hsz hb24
        have hsz : w.heap.size < w4.heap.size := box_lt h1
        go_wp2_with (refine wpL_store (cells := #[.bool true, .slice a5 l5 c5]) stInt h1 (by rfl) (by rfl) (by rfl) (by rfl) (by rfl) ?_)
        have hs := setRow_facts h1 #[.bool true, .slice a5 l5 c5]
        exact bodyPost_ret (results_cell rfl stInt rfl hs.1 rfl) rfl ⟨_, _, rfl, ⟨_, _, k5, rfl, HN5.out.other h1 noInt_zeroI hs.2.1, rfl⟩, by rw [ZI_abs]; exact HL5.out, fun k hk hne => (hs.2.1 k (by have := hsz; omega) (by omega)).trans (hbut k hk hne), hs.2.2 _ _ (by omega) hbel⟩

end Go.Proofs.YtpmadgmjkljbgaaDoor
