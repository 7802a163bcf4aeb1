/- Part 28 of the proof. -/
import Derived.Test.YtjlnanhjhfkddaaDoorM27
import Derived.Test.YtjlnanhjhfkddaaDoorM21

/- Walks by the evaluator: Begin. -/
namespace Go.Proofs.YtjlnanhjhfkddaaDoor
open Go.RowKit
variable {md me : Bool}

def fldsL : List ByteArray := [⟨#[111, 98, 106, 101, 99, 116]⟩, ⟨#[99, 108, 97, 115, 115, 58, 111, 98, 106, 101, 99, 116]⟩, ⟨#[110, 105, 108, 95, 116, 121, 112, 101, 58, 111, 98, 106, 101, 99, 116]⟩, ⟨#[98, 111, 111, 108, 58, 111, 98, 106, 101, 99, 116]⟩, ⟨#[105, 110, 116, 58, 111, 98, 106, 101, 99, 116]⟩, ⟨#[114, 97, 116, 105, 111, 58, 111, 98, 106, 101, 99, 116]⟩, ⟨#[116, 101, 120, 116, 58, 111, 98, 106, 101, 99, 116]⟩, ⟨#[98, 121, 116, 101, 115, 58, 111, 98, 106, 101, 99, 116]⟩, ⟨#[116, 117, 112, 108, 101, 58, 111, 98, 106, 101, 99, 116]⟩, ⟨#[108, 105, 115, 116, 58, 111, 98, 106, 101, 99, 116]⟩, ⟨#[100, 105, 99, 116, 58, 111, 98, 106, 101, 99, 116]⟩, ⟨#[115, 101, 116, 58, 111, 98, 106, 101, 99, 116]⟩, ⟨#[114, 97, 110, 103, 101, 58, 111, 98, 106, 101, 99, 116]⟩, ⟨#[99, 101, 108, 108, 58, 111, 98, 106, 101, 99, 116]⟩, ⟨#[102, 117, 110, 99, 116, 105, 111, 110, 58, 111, 98, 106, 101, 99, 116]⟩, ⟨#[98, 117, 105, 108, 116, 105, 110, 58, 111, 98, 106, 101, 99, 116]⟩, ⟨#[109, 101, 116, 104, 111, 100, 58, 111, 98, 106, 101, 99, 116]⟩, ⟨#[109, 111, 100, 117, 108, 101, 58, 111, 98, 106, 101, 99, 116]⟩, ⟨#[112, 114, 111, 112, 101, 114, 116, 121, 58, 111, 98, 106, 101, 99, 116]⟩, ⟨#[115, 116, 97, 116, 105, 99, 58, 111, 98, 106, 101, 99, 116]⟩, ⟨#[99, 108, 97, 115, 115, 95, 109, 101, 116, 104, 111, 100, 58, 111, 98, 106, 101, 99, 116]⟩, ⟨#[115, 117, 112, 101, 114, 95, 116, 121, 112, 101, 58, 111, 98, 106, 101, 99, 116]⟩, ⟨#[105, 116, 101, 114, 97, 116, 111, 114, 58, 111, 98, 106, 101, 99, 116]⟩, ⟨#[103, 101, 110, 101, 114, 97, 116, 111, 114, 58, 111, 98, 106, 101, 99, 116]⟩, ⟨#[119, 101, 97, 107, 58, 111, 98, 106, 101, 99, 116]⟩, ⟨#[116, 97, 115, 107, 58, 111, 98, 106, 101, 99, 116]⟩, ⟨#[116, 105, 109, 101, 114, 58, 111, 98, 106, 101, 99, 116]⟩, ⟨#[112, 97, 115, 115, 95, 116, 121, 112, 101, 58, 111, 98, 106, 101, 99, 116]⟩, ⟨#[82, 97, 105, 115, 101, 100, 58, 111, 98, 106, 101, 99, 116]⟩, ⟨#[69, 120, 105, 116, 58, 82, 97, 105, 115, 101, 100]⟩, ⟨#[67, 97, 110, 99, 101, 108, 58, 82, 97, 105, 115, 101, 100]⟩, ⟨#[69, 114, 114, 111, 114, 58, 82, 97, 105, 115, 101, 100]⟩, ⟨#[84, 121, 112, 101, 69, 114, 114, 111, 114, 58, 69, 114, 114, 111, 114]⟩, ⟨#[86, 97, 108, 117, 101, 69, 114, 114, 111, 114, 58, 69, 114, 114, 111, 114]⟩, ⟨#[78, 97, 109, 101, 69, 114, 114, 111, 114, 58, 69, 114, 114, 111, 114]⟩, ⟨#[85, 110, 98, 111, 117, 110, 100, 69, 114, 114, 111, 114, 58, 78, 97, 109, 101, 69, 114, 114, 111, 114]⟩, ⟨#[65, 116, 116, 114, 105, 98, 117, 116, 101, 69, 114, 114, 111, 114, 58, 69, 114, 114, 111, 114]⟩, ⟨#[76, 111, 111, 107, 117, 112, 69, 114, 114, 111, 114, 58, 69, 114, 114, 111, 114]⟩, ⟨#[73, 110, 100, 101, 120, 69, 114, 114, 111, 114, 58, 76, 111, 111, 107, 117, 112, 69, 114, 114, 111, 114]⟩, ⟨#[75, 101, 121, 69, 114, 114, 111, 114, 58, 76, 111, 111, 107, 117, 112, 69, 114, 114, 111, 114]⟩, ⟨#[65, 114, 105, 116, 104, 109, 101, 116, 105, 99, 69, 114, 114, 111, 114, 58, 69, 114, 114, 111, 114]⟩, ⟨#[68, 105, 118, 105, 115, 105, 111, 110, 69, 114, 114, 111, 114, 58, 65, 114, 105, 116, 104, 109, 101, 116, 105, 99, 69, 114, 114, 111, 114]⟩, ⟨#[76, 105, 109, 105, 116, 69, 114, 114, 111, 114, 58, 69, 114, 114, 111, 114]⟩, ⟨#[82, 101, 99, 117, 114, 115, 105, 111, 110, 69, 114, 114, 111, 114, 58, 76, 105, 109, 105, 116, 69, 114, 114, 111, 114]⟩, ⟨#[65, 115, 115, 101, 114, 116, 105, 111, 110, 69, 114, 114, 111, 114, 58, 69, 114, 114, 111, 114]⟩, ⟨#[73, 109, 112, 111, 114, 116, 69, 114, 114, 111, 114, 58, 69, 114, 114, 111, 114]⟩, ⟨#[83, 116, 111, 112, 69, 114, 114, 111, 114, 58, 69, 114, 114, 111, 114]⟩, ⟨#[83, 116, 97, 116, 101, 69, 114, 114, 111, 114, 58, 69, 114, 114, 111, 114]⟩, ⟨#[71, 114, 111, 117, 112, 69, 114, 114, 111, 114, 58, 69, 114, 114, 111, 114]⟩]
def nmL : List ByteArray := [⟨#[111, 98, 106, 101, 99, 116]⟩, ⟨#[99, 108, 97, 115, 115]⟩, ⟨#[110, 105, 108, 95, 116, 121, 112, 101]⟩, ⟨#[98, 111, 111, 108]⟩, ⟨#[105, 110, 116]⟩, ⟨#[114, 97, 116, 105, 111]⟩, ⟨#[116, 101, 120, 116]⟩, ⟨#[98, 121, 116, 101, 115]⟩, ⟨#[116, 117, 112, 108, 101]⟩, ⟨#[108, 105, 115, 116]⟩, ⟨#[100, 105, 99, 116]⟩, ⟨#[115, 101, 116]⟩, ⟨#[114, 97, 110, 103, 101]⟩, ⟨#[99, 101, 108, 108]⟩, ⟨#[102, 117, 110, 99, 116, 105, 111, 110]⟩, ⟨#[98, 117, 105, 108, 116, 105, 110]⟩, ⟨#[109, 101, 116, 104, 111, 100]⟩, ⟨#[109, 111, 100, 117, 108, 101]⟩, ⟨#[112, 114, 111, 112, 101, 114, 116, 121]⟩, ⟨#[115, 116, 97, 116, 105, 99]⟩, ⟨#[99, 108, 97, 115, 115, 95, 109, 101, 116, 104, 111, 100]⟩, ⟨#[115, 117, 112, 101, 114, 95, 116, 121, 112, 101]⟩, ⟨#[105, 116, 101, 114, 97, 116, 111, 114]⟩, ⟨#[103, 101, 110, 101, 114, 97, 116, 111, 114]⟩, ⟨#[119, 101, 97, 107]⟩, ⟨#[116, 97, 115, 107]⟩, ⟨#[116, 105, 109, 101, 114]⟩, ⟨#[112, 97, 115, 115, 95, 116, 121, 112, 101]⟩, ⟨#[82, 97, 105, 115, 101, 100]⟩, ⟨#[69, 120, 105, 116]⟩, ⟨#[67, 97, 110, 99, 101, 108]⟩, ⟨#[69, 114, 114, 111, 114]⟩, ⟨#[84, 121, 112, 101, 69, 114, 114, 111, 114]⟩, ⟨#[86, 97, 108, 117, 101, 69, 114, 114, 111, 114]⟩, ⟨#[78, 97, 109, 101, 69, 114, 114, 111, 114]⟩, ⟨#[85, 110, 98, 111, 117, 110, 100, 69, 114, 114, 111, 114]⟩, ⟨#[65, 116, 116, 114, 105, 98, 117, 116, 101, 69, 114, 114, 111, 114]⟩, ⟨#[76, 111, 111, 107, 117, 112, 69, 114, 114, 111, 114]⟩, ⟨#[73, 110, 100, 101, 120, 69, 114, 114, 111, 114]⟩, ⟨#[75, 101, 121, 69, 114, 114, 111, 114]⟩, ⟨#[65, 114, 105, 116, 104, 109, 101, 116, 105, 99, 69, 114, 114, 111, 114]⟩, ⟨#[68, 105, 118, 105, 115, 105, 111, 110, 69, 114, 114, 111, 114]⟩, ⟨#[76, 105, 109, 105, 116, 69, 114, 114, 111, 114]⟩, ⟨#[82, 101, 99, 117, 114, 115, 105, 111, 110, 69, 114, 114, 111, 114]⟩, ⟨#[65, 115, 115, 101, 114, 116, 105, 111, 110, 69, 114, 114, 111, 114]⟩, ⟨#[73, 109, 112, 111, 114, 116, 69, 114, 114, 111, 114]⟩, ⟨#[83, 116, 111, 112, 69, 114, 114, 111, 114]⟩, ⟨#[83, 116, 97, 116, 101, 69, 114, 114, 111, 114]⟩, ⟨#[71, 114, 111, 117, 112, 69, 114, 114, 111, 114]⟩]
def bsL : List ByteArray := [⟨#[]⟩, ⟨#[111, 98, 106, 101, 99, 116]⟩, ⟨#[111, 98, 106, 101, 99, 116]⟩, ⟨#[111, 98, 106, 101, 99, 116]⟩, ⟨#[111, 98, 106, 101, 99, 116]⟩, ⟨#[111, 98, 106, 101, 99, 116]⟩, ⟨#[111, 98, 106, 101, 99, 116]⟩, ⟨#[111, 98, 106, 101, 99, 116]⟩, ⟨#[111, 98, 106, 101, 99, 116]⟩, ⟨#[111, 98, 106, 101, 99, 116]⟩, ⟨#[111, 98, 106, 101, 99, 116]⟩, ⟨#[111, 98, 106, 101, 99, 116]⟩, ⟨#[111, 98, 106, 101, 99, 116]⟩, ⟨#[111, 98, 106, 101, 99, 116]⟩, ⟨#[111, 98, 106, 101, 99, 116]⟩, ⟨#[111, 98, 106, 101, 99, 116]⟩, ⟨#[111, 98, 106, 101, 99, 116]⟩, ⟨#[111, 98, 106, 101, 99, 116]⟩, ⟨#[111, 98, 106, 101, 99, 116]⟩, ⟨#[111, 98, 106, 101, 99, 116]⟩, ⟨#[111, 98, 106, 101, 99, 116]⟩, ⟨#[111, 98, 106, 101, 99, 116]⟩, ⟨#[111, 98, 106, 101, 99, 116]⟩, ⟨#[111, 98, 106, 101, 99, 116]⟩, ⟨#[111, 98, 106, 101, 99, 116]⟩, ⟨#[111, 98, 106, 101, 99, 116]⟩, ⟨#[111, 98, 106, 101, 99, 116]⟩, ⟨#[111, 98, 106, 101, 99, 116]⟩, ⟨#[111, 98, 106, 101, 99, 116]⟩, ⟨#[82, 97, 105, 115, 101, 100]⟩, ⟨#[82, 97, 105, 115, 101, 100]⟩, ⟨#[82, 97, 105, 115, 101, 100]⟩, ⟨#[69, 114, 114, 111, 114]⟩, ⟨#[69, 114, 114, 111, 114]⟩, ⟨#[69, 114, 114, 111, 114]⟩, ⟨#[78, 97, 109, 101, 69, 114, 114, 111, 114]⟩, ⟨#[69, 114, 114, 111, 114]⟩, ⟨#[69, 114, 114, 111, 114]⟩, ⟨#[76, 111, 111, 107, 117, 112, 69, 114, 114, 111, 114]⟩, ⟨#[76, 111, 111, 107, 117, 112, 69, 114, 114, 111, 114]⟩, ⟨#[69, 114, 114, 111, 114]⟩, ⟨#[65, 114, 105, 116, 104, 109, 101, 116, 105, 99, 69, 114, 114, 111, 114]⟩, ⟨#[69, 114, 114, 111, 114]⟩, ⟨#[76, 105, 109, 105, 116, 69, 114, 114, 111, 114]⟩, ⟨#[69, 114, 114, 111, 114]⟩, ⟨#[69, 114, 114, 111, 114]⟩, ⟨#[69, 114, 114, 111, 114]⟩, ⟨#[69, 114, 114, 111, 114]⟩, ⟨#[69, 114, 114, 111, 114]⟩]
def dvL : List Bool := [false, true, true, true, true, true, true, true, true, true, true, true, true, true, true, true, true, true, true, true, true, true, true, true, true, true, true, true, true, true, true, true, true, true, true, true, true, true, true, true, true, true, true, true, true, true, true, true, true]
def ixL : List Int := [0, 0, 0, 0, 0, 0, 0, 0, 0, 0, 0, 0, 0, 0, 0, 0, 0, 0, 0, 0, 0, 0, 0, 0, 0, 0, 0, 0, 0, 28, 28, 28, 31, 31, 31, 34, 31, 31, 37, 37, 31, 40, 31, 42, 31, 31, 31, 31, 31]
def odL : List (List Int) := [[0], [1, 0], [2, 0], [3, 0], [4, 0], [5, 0], [6, 0], [7, 0], [8, 0], [9, 0], [10, 0], [11, 0], [12, 0], [13, 0], [14, 0], [15, 0], [16, 0], [17, 0], [18, 0], [19, 0], [20, 0], [21, 0], [22, 0], [23, 0], [24, 0], [25, 0], [26, 0], [27, 0], [28, 0], [29, 28, 0], [30, 28, 0], [31, 28, 0], [32, 31, 28, 0], [33, 31, 28, 0], [34, 31, 28, 0], [35, 34, 31, 28, 0], [36, 31, 28, 0], [37, 31, 28, 0], [38, 37, 31, 28, 0], [39, 37, 31, 28, 0], [40, 31, 28, 0], [41, 40, 31, 28, 0], [42, 31, 28, 0], [43, 42, 31, 28, 0], [44, 31, 28, 0], [45, 31, 28, 0], [46, 31, 28, 0], [47, 31, 28, 0], [48, 31, 28, 0]]
def nmB (k : Nat) : ByteArray := nmL.getD k ByteArray.empty
def bsB (k : Nat) : ByteArray := bsL.getD k ByteArray.empty
def dvB (k : Nat) : Bool := dvL.getD k false
def ixB (k : Nat) : Int := ixL.getD k 0
def odB (k : Nat) : List Int := odL.getD k []
def nmS (k : Nat) : List ByteArray := (List.range k).map nmB
/-- A class of the beginning. -/
def bgO (k : Nat) : Ob := ⟨9, nmB k, 0, if dvB k then [ixB k] else [], odB k, [], [], [], 0, 0⟩
def bgS (k : Nat) : List Ob := (List.range k).map bgO
theorem bgS_len (k : Nat) : (bgS k).length = k := by simp [bgS]
theorem bgS_succ (k : Nat) : (bgS (k + 1)).map obD = (bgS k).map obD ++ [obD (bgO k)] := by rw [bgS, List.range_succ, List.map_append, List.map_append]; rfl
theorem nmS_succ (k : Nat) : (nmS (k + 1)).map sD = (nmS k).map sD ++ [sD (nmB k)] := by rw [nmS, List.range_succ, List.map_append, List.map_append]; rfl
theorem fldsL_len : fldsL.length = 49 := by decide +kernel
def fieldsS (p : ByteArray) : List ByteArray := (Lib.fields p.data.toList).map fun l => ⟨l.toArray⟩
theorem Fields_ok (p : ByteArray) {l : List ByteArray} (h : fieldsS p = l) (hp : p.size < 4294967281) (hl : l.length ≤ 9223372036854775807) (ha : p.data.toList.all (fun b => decide (b.toNat < 128)) = true) : Fn Tryd.prog 35 [.v (.string p)] (ssD l) := by
  subst h
  refine fn_rowS (t := 9) ⟨_, Tryd.func35, rfl, rfl⟩ hl fun w s vs hg hv => ?_
  rw [allV_one hv]
  obtain ⟨G, g1, g2⟩ := hg
  refine (Any.strings_Fields_core Tryd.laysFields (by kernel_rfl) p w hp (fun j b hb => of_decide_eq_true (List.all_eq_true.1 ha b (List.mem_of_getElem? hb))) fun c hc => (g2 _ _ _ (g1.space c hc)).1).mono ?_
  rintro e w' ⟨rfl, rfl⟩
  refine ⟨?_, ?_⟩
  · simp only [fieldsS, List.length_map]
  · simp only [fieldsS, List.map_map]; rfl
theorem Cut_ok (p q : ByteArray) (hp : p.size < 4294967281) {a b : ByteArray} {c : Bool} (h : Lib.cut p.data.toList q.data.toList = (a.data.toList, b.data.toList, c)) : Fn Tryd.prog 36 [.v (.string p), .v (.string q)] (.tup [.v (.string a), .v (.string b), .v (.bool c)]) := by
  refine ⟨⟨_, Tryd.func36, rfl, rfl⟩, fun w s vs hlt hg hv => ?_⟩
  rw [allV_two hv]
  obtain ⟨G, g1, g2⟩ := hg
  obtain ⟨m, hm⟩ := g1.maxLen
  refine (Any.strings_Cut Tryd.laysCut p q m w hp (g2 _ _ _ hm).1).mono ?_
  rintro e w' ⟨rfl, n, rfl⟩
  rw [h]
  exact ⟨s, _, rfl, ⟨_, rfl, rfl, rfl, rfl, trivial⟩, PStp.ofBelow hlt (below_drewN (Below.refl _ _) n)⟩
def bgK (k : Nat) : Bool := decide (Lib.cut (fldsL.getD k ByteArray.empty).data.toList [58] = ((nmB k).data.toList, (bsB k).data.toList, dvB k)) && decide ((fldsL.getD k ByteArray.empty).size ≤ 100)
  && (if dvB k then decide (ixI (nmS k) (bsB k) = ixB k) && decide (0 ≤ ixB k) && decide (ixB k < (k : Int)) && decide (odB k = (k : Int) :: odB (ixB k).toNat) else decide (odB k = [(k : Int)]))
theorem bgK_all : (List.range 49).all bgK = true := by decide +kernel
theorem bgK_at {k : Nat} (h : k < 49) : bgK k = true := List.all_eq_true.1 bgK_all k (List.mem_range.2 h)
theorem cutK {k : Nat} (h : k < 49) : Lib.cut (fldsL.getD k ByteArray.empty).data.toList [58] = ((nmB k).data.toList, (bsB k).data.toList, dvB k) ∧ (fldsL.getD k ByteArray.empty).size ≤ 100 := by
  have := bgK_at h
  simp only [bgK, Bool.and_eq_true, decide_eq_true_eq] at this
  exact this.1
theorem ixK {k : Nat} (h : k < 49) (hd : dvB k = true) : ixI (nmS k) (bsB k) = ixB k ∧ 0 ≤ ixB k ∧ ixB k < (k : Int) ∧ odB k = (k : Int) :: odB (ixB k).toNat := by
  have := bgK_at h
  simp only [bgK, Bool.and_eq_true, decide_eq_true_eq, if_pos hd] at this
  exact ⟨this.2.1.1.1, this.2.1.1.2, this.2.1.2, this.2.2⟩
theorem odK {k : Nat} (h : k < 49) (hd : dvB k = false) : odB k = [(k : Int)] := by
  have := bgK_at h
  rw [bgK, if_neg (by rw [hd]; decide)] at this
  simp only [Bool.and_eq_true, decide_eq_true_eq] at this
  exact this.2
theorem rowK {k j : Nat} (h : j < k) : ((bgS k).map obD).getD j [] = obD (bgO j) := by
  have e : ((bgS k).map obD)[j]? = some (obD (bgO j)) := by rw [bgS, List.map_map, List.getElem?_map, List.getElem?_range h]; rfl
  rw [List.getD_eq_getElem?_getD, e]; rfl
theorem Cut_at (k : Nat) (h : k < 49) : Fn Tryd.prog 36 [.v (.string (fldsL.getD k ByteArray.empty)), .v (.string ⟨#[58]⟩)] (.tup [.v (.string (nmB k)), .v (.string (bsB k)), .v (.bool (dvB k))]) :=
  Cut_ok _ _ (by have := (cutK h).2; omega) (cutK h).1
theorem odL_len (k : Nat) : (odB k).length ≤ 10 := by
  by_cases h : k < 49
  · exact of_decide_eq_true (List.all_eq_true.1 (show (List.range 49).all (fun k => decide ((odB k).length ≤ 10)) = true by decide +kernel) k (List.mem_range.2 h))
  · have : odB k = [] := by rw [odB, List.getD_eq_getElem?_getD, List.getElem?_eq_none (by show 49 ≤ k; omega)]; rfl
    rw [this]; decide
theorem nmS_len (k : Nat) : (nmS k).length = k := by simp [nmS]
theorem bgRow0 {k : Nat} (h : k < 49) (hd : dvB k = false) {K : Nat} : SubPs [.v (.int .i64 9), .v (.string (nmB k)), .v (.int .i64 0), .v (.slice none 0 0), .own K 1 [[.v (.int .i64 k)]], .v (.slice none 0 0), .v (.slice none 0 0), .v (.slice none 0 0), .v (.int .i64 0), .v (.int .i64 0)] (obD (bgO k)) :=
  ⟨SubP.refl _, SubP.refl _, SubP.refl _, SubP.nilSl (by show (if dvB k then _ else _) = _; rw [if_neg (by rw [hd]; decide)]), SubP.ownSl (by show _ = (odB k).map iD; rw [odK h hd]; rfl), SubP.nilSl rfl, SubP.nilSl rfl, SubP.nilSl rfl, SubP.refl _, SubP.refl _, trivial⟩
theorem bgRow1 {k : Nat} (h : k < 49) (hd : dvB k = true) {K : Nat} {rows : List (List D)} (hr : rows = [[.v (.int .i64 k)]] ++ (odB (ixB k).toNat).map iD) : SubPs [.v (.int .i64 9), .v (.string (nmB k)), .v (.int .i64 0), .slr false 1 [[.v (.int .i64 (ixI (nmS k) (bsB k)))]], .own K 1 rows, .v (.slice none 0 0), .v (.slice none 0 0), .v (.slice none 0 0), .v (.int .i64 0), .v (.int .i64 0)] (obD (bgO k)) :=
  ⟨SubP.refl _, SubP.refl _, SubP.refl _, SubP.slrSl (by show _ = (if dvB k then [ixB k] else []).map iD; rw [if_pos hd, (ixK h hd).1]; rfl), SubP.ownSl (by show _ = (odB k).map iD; rw [(ixK h hd).2.2.2, hr]; rfl), SubP.nilSl rfl, SubP.nilSl rfl, SubP.nilSl rfl, SubP.refl _, SubP.refl _, trivial⟩

set_option maxHeartbeats 1000000 in
theorem Begin_ok  : Fn Tryd.prog 21 [] (hpD false (bgS 49)) := by
  refine fn_ev tabT Tryd.func21 rfl rfl rfl rfl rfl rfl ?_
  intro w0 s0 mx
  refine ev_seq (ev_region tabT [] 100 rfl ?_)
  repeat (first | refine sat_same ?_ | refine sat_impA ?_ | refine sat_needA ?_)
  refine sat_done ?_
  refine exS_normal ?_
  refine ev_seq (ev_region tabT [] 200 rfl ?_)
  repeat (first | refine sat_same ?_ | refine sat_impA ?_ | refine sat_needA ?_)
  refine sat_done ?_
  refine exS_normal ?_
  refine ev_seq (ev_region tabT [] 300 rfl ?_)
  repeat (first | refine sat_same ?_ | refine sat_impA ?_ | refine sat_needA ?_)
  refine sat_done ?_
  refine exS_normal ?_
  refine ev_nilCell 100 0 44 10 rfl rfl ?_
  refine ev_nilRow 2 9 1 rfl ?_
  refine ev_seq ?_
  refine ev_seq (ev_region tabT [] 400 rfl ?_)
  repeat (first | refine sat_same ?_ | refine sat_impA ?_ | refine sat_needA ?_)
  refine sat_fn _ (Fields_ok _ (l := fldsL) (by decide +kernel) (by decide +kernel) (by decide +kernel) (by decide +kernel)) rfl ?_
  repeat (first | refine sat_same ?_ | refine sat_impA ?_ | refine sat_needA ?_)
  refine sat_done ?_
  refine exS_normal ?_
  refine ev_block ?_
  refine ev_loopK (ι := Up 49 (fun _ => true)) [0, 1, 10, 11] [0] 450 (fun x => [(12, .v (.int .i64 x.k)), (2, .own 301 1 ((nmS x.k).map sD))]) (fun x => [(301, .row 9 1 ((nmS x.k).map sD).length), (100, .box 24 [.own 300 10 ((bgS x.k).map obD)]), (300, .row 44 10 ((bgS x.k).map obD).length)]) (fun x => 49 - x.k) ⟨0, Nat.zero_le _, fun j hj => by omega⟩ ?_
  refine ⟨⟨(by first | exact trivial | (repeat (first | exact trivial | exact Sub.refl _ | refine ⟨?_, ?_⟩ | exact Sub.int (by first | rfl | omega | (push_cast; omega)) | exact Sub.nilSl | exact Sub.own rfl | exact Sub.slrSl rfl | exact Sub.ownSl (List.map_append).symm | exact Sub.ownSl rfl))), (by repeat (first | exact trivial | exact SubO.same rfl | refine ⟨?_, ?_⟩)), rfl, rfl⟩, fun x => ?_⟩
  have hk := x.le
  refine ev_seq (ev_region tabT [] 500 rfl ?_)
  repeat (first | refine sat_same ?_ | refine sat_impA ?_ | refine sat_needA ?_)
  refine sat_done ?_
  refine exS_normal ?_
  refine ev_seq ?_
  refine ev_cond rfl (fun c4 => ?_) (fun c4 => ?_)
  · replace c4 := of_decide_eq_true c4
    have hk9 : x.k < 49 := by have := fldsL_len; omega
    refine ev_skip ?_
    refine exS_normal ?_
    refine ev_seq ?_
    refine ev_block ?_
    refine ev_seq (ev_region tabT [] 600 rfl ?_)
    repeat (first | refine sat_same ?_ | refine sat_impA ?_ | refine sat_needA ?_)
    refine sat_done ?_
    refine exS_normal ?_
    refine ev_seq (ev_region tabT [] 700 rfl ?_)
    repeat (first | refine sat_same ?_ | refine sat_impA ?_ | refine sat_needA ?_)
    refine sat_fn _ (Cut_at x.k hk9) rfl ?_
    repeat (first | refine sat_same ?_ | refine sat_impA ?_ | refine sat_needA ?_)
    refine sat_done ?_
    refine exS_normal ?_
    refine ev_seq (ev_region tabT [25] 800 rfl ?_)
    repeat (first | refine sat_same ?_ | refine sat_impA ?_ | refine sat_needA ?_)
    refine sat_done ?_
    refine exS_normal ?_
    refine ev_seq ?_
    refine ev_seq (ev_region tabT [] 900 rfl ?_)
    repeat (first | refine sat_same ?_ | refine sat_impA ?_ | refine sat_needA ?_)
    refine sat_done ?_
    refine exS_normal ?_
    refine ev_cond rfl (fun c8 => ?_) (fun c8 => ?_)
    · try simp only [decide_eq_true_eq, decide_eq_false_iff_not, Bool.not_eq_true', Bool.not_eq_false', Bool.and_eq_true, Bool.or_eq_true, Bool.or_eq_false_iff, gt_iff_lt, Int.not_lt, Bool.not_true, Bool.not_false, Int.ofNat_lt, Int.ofNat_le] at c8
      refine ev_seq (ev_region tabT [] 1000 rfl ?_)
      repeat (first | refine sat_same ?_ | refine sat_impA ?_ | refine sat_needA ?_)
      refine sat_fn _ ((IndexS_ok (nmS x.k) (bsB x.k)).args ⟨SubP.ownSl rfl, SubP.refl _, trivial⟩) rfl ?_
      repeat (first | refine sat_same ?_ | refine sat_impA ?_ | refine sat_needA ?_)
      refine sat_done ?_
      refine exS_normal ?_
      refine ev_drawn tabT [38] [[], [0], [], [2], [], [4], [], [4, 5, 6], [4, 5, 6, 7], [4, 5, 6, 7, 8], [2, 3, 4, 5, 6, 7, 8, 9], [0, 1, 2, 3], [0, 1, 2, 3, 4, 5, 6, 7, 8, 9, 10, 11], [0, 1, 2, 3, 4, 5, 6, 7, 8, 9, 10, 11, 12], [0, 1, 2, 3, 4, 5, 6, 7, 8, 9, 10, 11, 12, 13]] 1100 mixT (by kernel_rfl) rfl ?_
      repeat (first | refine sat_same ?_ | refine sat_impA ?_ | refine sat_needA ?_)
      refine sat_pick (obD (bgO (ixB x.k).toNat)) ⟨?_, ?_, ?_⟩ ?_
      · show 0 ≤ ixI (nmS x.k) (bsB x.k)
        rw [(ixK hk9 c8).1]; exact (ixK hk9 c8).2.1
      · show (ixI (nmS x.k) (bsB x.k)).toNat < ((bgS x.k).map obD).length
        rw [(ixK hk9 c8).1, List.length_map, bgS_len]; have := (ixK hk9 c8).2; omega
      · show ((bgS x.k).map obD).getD (ixI (nmS x.k) (bsB x.k)).toNat [] = _
        rw [(ixK hk9 c8).1]; exact rowK (by have := (ixK hk9 c8).2; omega)
      repeat (first | refine sat_same ?_ | refine sat_imp (by exact fun hh => hh) ?_ | refine sat_need (by first | rfl | (have hod := odL_len (ixB x.k).toNat; simp only [List.length_map, List.length_cons, List.length_nil, bgO]; omega)) ?_)
      refine sat_done ?_
      refine exS_normal ?_
      refine ev_seq (ev_region tabT [] 1200 rfl ?_)
      repeat (first | refine sat_same ?_ | refine sat_impA ?_ | refine sat_need (by first | rfl | (have h1 := nmS_len x.k; have h2 := bgS_len x.k; simp only [List.length_map, List.length_cons, List.length_nil]; omega)) ?_)
      refine sat_done ?_
      refine exS_normal ?_
      refine ev_region tabT [] 1300 rfl ?_
      repeat (first | refine sat_same ?_ | refine sat_impA ?_ | refine sat_need (by first | rfl | (have h1 := nmS_len x.k; have h2 := bgS_len x.k; simp only [List.length_map, List.length_cons, List.length_nil]; omega)) ?_)
      refine sat_done ?_
      refine exBl_normal ?_
      refine exS_normal ?_
      refine ev_region tabT [] 1400 rfl ?_
      repeat (first | refine sat_same ?_ | refine sat_impA ?_ | refine sat_needA ?_)
      refine sat_done ?_
      exact exL_normal (x.next hk9 rfl) ⟨⟨Sub.refl _, Sub.own (by show _ = (nmS (x.k + 1)).map sD; rw [nmS_succ]; rfl), by repeat (first | exact trivial | exact Sub.refl _ | refine ⟨?_, ?_⟩)⟩, ⟨⟨rfl, rfl, by show _ = ((nmS (x.k + 1)).map sD).length; rw [nmS_succ]; rfl⟩, ⟨rfl, Sub.ownRows (by show RowsP _ ((bgS (x.k + 1)).map obD); rw [bgS_succ]; exact (RowsP.refl _).append ⟨bgRow1 hk9 c8 rfl, trivial⟩), rfl, trivial⟩, ⟨rfl, rfl, by show _ = ((bgS (x.k + 1)).map obD).length; rw [bgS_succ, List.length_append, List.length_append]; rfl⟩, by repeat (first | exact trivial | exact SubO.same rfl | refine ⟨?_, ?_⟩)⟩, rfl, rfl⟩ (by show 49 - (x.k + 1) < 49 - x.k; omega)
    · try simp only [decide_eq_true_eq, decide_eq_false_iff_not, Bool.not_eq_true', Bool.not_eq_false', Bool.and_eq_true, Bool.or_eq_true, Bool.or_eq_false_iff, gt_iff_lt, Int.not_lt, Bool.not_true, Bool.not_false, Int.ofNat_lt, Int.ofNat_le] at c8
      refine ev_skip ?_
      refine exS_normal ?_
      refine ev_seq (ev_region tabT [] 1200 rfl ?_)
      repeat (first | refine sat_same ?_ | refine sat_impA ?_ | refine sat_need (by first | rfl | (have h1 := nmS_len x.k; have h2 := bgS_len x.k; simp only [List.length_map, List.length_cons, List.length_nil]; omega)) ?_)
      refine sat_done ?_
      refine exS_normal ?_
      refine ev_region tabT [] 1300 rfl ?_
      repeat (first | refine sat_same ?_ | refine sat_impA ?_ | refine sat_need (by first | rfl | (have h1 := nmS_len x.k; have h2 := bgS_len x.k; simp only [List.length_map, List.length_cons, List.length_nil]; omega)) ?_)
      refine sat_done ?_
      refine exBl_normal ?_
      refine exS_normal ?_
      refine ev_region tabT [] 1400 rfl ?_
      repeat (first | refine sat_same ?_ | refine sat_impA ?_ | refine sat_needA ?_)
      refine sat_done ?_
      exact exL_normal (x.next hk9 rfl) ⟨⟨Sub.refl _, Sub.own (by show _ = (nmS (x.k + 1)).map sD; rw [nmS_succ]; rfl), by repeat (first | exact trivial | exact Sub.refl _ | refine ⟨?_, ?_⟩)⟩, ⟨⟨rfl, rfl, by show _ = ((nmS (x.k + 1)).map sD).length; rw [nmS_succ]; rfl⟩, ⟨rfl, Sub.ownRows (by show RowsP _ ((bgS (x.k + 1)).map obD); rw [bgS_succ]; exact (RowsP.refl _).append ⟨bgRow0 hk9 c8, trivial⟩), rfl, trivial⟩, ⟨rfl, rfl, by show _ = ((bgS (x.k + 1)).map obD).length; rw [bgS_succ, List.length_append, List.length_append]; rfl⟩, by repeat (first | exact trivial | exact SubO.same rfl | refine ⟨?_, ?_⟩)⟩, rfl, rfl⟩ (by show 49 - (x.k + 1) < 49 - x.k; omega)
  · replace c4 := of_decide_eq_false c4
    have hxk : x.k = 49 := by have := fldsL_len; omega
    refine ev_exit ?_
    refine exS_exit ?_
    refine exL_exit ?_
    refine exBl_same ?_
    refine exS_normal ?_
    refine ev_seq (ev_region tabT [] 1500 rfl ?_)
    repeat (first | refine sat_same ?_ | refine sat_impA ?_ | refine sat_needA ?_)
    refine sat_done ?_
    refine exS_normal ?_
    refine ev_ret ?_
    exact FinV.ret rfl (SubP.agg ⟨SubP.ownSl (by rw [hxk]), trivial⟩)

end Go.Proofs.YtjlnanhjhfkddaaDoor
