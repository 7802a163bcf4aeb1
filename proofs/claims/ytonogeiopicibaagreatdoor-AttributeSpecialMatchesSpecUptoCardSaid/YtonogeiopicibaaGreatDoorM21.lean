/- Part 21 of the proof. -/
import Derived.Test.YtonogeiopicibaaGreatDoorM20
import Derived.Test.YtonogeiopicibaaGreatDoorM10
import Derived.Test.YtonogeiopicibaaGreatDoorM11

/- Walks by the evaluator: Begin. -/
namespace Go.Proofs.YtonogeiopicibaaGreatDoor
open Go.RowKit
variable {md me : Bool}

def fldsL : List ByteArray := [⟨#[111, 98, 106, 101, 99, 116]⟩, ⟨#[99, 108, 97, 115, 115, 58, 111, 98, 106, 101, 99, 116]⟩, ⟨#[110, 105, 108, 95, 116, 121, 112, 101, 58, 111, 98, 106, 101, 99, 116]⟩, ⟨#[98, 111, 111, 108, 58, 111, 98, 106, 101, 99, 116]⟩, ⟨#[105, 110, 116, 58, 111, 98, 106, 101, 99, 116]⟩, ⟨#[114, 97, 116, 105, 111, 58, 111, 98, 106, 101, 99, 116]⟩, ⟨#[116, 101, 120, 116, 58, 111, 98, 106, 101, 99, 116]⟩, ⟨#[98, 121, 116, 101, 115, 58, 111, 98, 106, 101, 99, 116]⟩, ⟨#[116, 117, 112, 108, 101, 58, 111, 98, 106, 101, 99, 116]⟩, ⟨#[108, 105, 115, 116, 58, 111, 98, 106, 101, 99, 116]⟩, ⟨#[100, 105, 99, 116, 58, 111, 98, 106, 101, 99, 116]⟩, ⟨#[115, 101, 116, 58, 111, 98, 106, 101, 99, 116]⟩, ⟨#[114, 97, 110, 103, 101, 58, 111, 98, 106, 101, 99, 116]⟩, ⟨#[99, 101, 108, 108, 58, 111, 98, 106, 101, 99, 116]⟩, ⟨#[102, 117, 110, 99, 116, 105, 111, 110, 58, 111, 98, 106, 101, 99, 116]⟩, ⟨#[98, 117, 105, 108, 116, 105, 110, 58, 111, 98, 106, 101, 99, 116]⟩, ⟨#[109, 101, 116, 104, 111, 100, 58, 111, 98, 106, 101, 99, 116]⟩, ⟨#[109, 111, 100, 117, 108, 101, 58, 111, 98, 106, 101, 99, 116]⟩, ⟨#[112, 114, 111, 112, 101, 114, 116, 121, 58, 111, 98, 106, 101, 99, 116]⟩, ⟨#[115, 116, 97, 116, 105, 99, 58, 111, 98, 106, 101, 99, 116]⟩, ⟨#[99, 108, 97, 115, 115, 95, 109, 101, 116, 104, 111, 100, 58, 111, 98, 106, 101, 99, 116]⟩, ⟨#[115, 117, 112, 101, 114, 95, 116, 121, 112, 101, 58, 111, 98, 106, 101, 99, 116]⟩, ⟨#[105, 116, 101, 114, 97, 116, 111, 114, 58, 111, 98, 106, 101, 99, 116]⟩, ⟨#[103, 101, 110, 101, 114, 97, 116, 111, 114, 58, 111, 98, 106, 101, 99, 116]⟩, ⟨#[119, 101, 97, 107, 58, 111, 98, 106, 101, 99, 116]⟩, ⟨#[116, 97, 115, 107, 58, 111, 98, 106, 101, 99, 116]⟩, ⟨#[116, 105, 109, 101, 114, 58, 111, 98, 106, 101, 99, 116]⟩, ⟨#[112, 97, 115, 115, 95, 116, 121, 112, 101, 58, 111, 98, 106, 101, 99, 116]⟩, ⟨#[82, 97, 105, 115, 101, 100, 58, 111, 98, 106, 101, 99, 116]⟩, ⟨#[69, 120, 105, 116, 58, 82, 97, 105, 115, 101, 100]⟩, ⟨#[67, 97, 110, 99, 101, 108, 58, 82, 97, 105, 115, 101, 100]⟩, ⟨#[69, 114, 114, 111, 114, 58, 82, 97, 105, 115, 101, 100]⟩, ⟨#[84, 121, 112, 101, 69, 114, 114, 111, 114, 58, 69, 114, 114, 111, 114]⟩, ⟨#[86, 97, 108, 117, 101, 69, 114, 114, 111, 114, 58, 69, 114, 114, 111, 114]⟩, ⟨#[78, 97, 109, 101, 69, 114, 114, 111, 114, 58, 69, 114, 114, 111, 114]⟩, ⟨#[85, 110, 98, 111, 117, 110, 100, 69, 114, 114, 111, 114, 58, 78, 97, 109, 101, 69, 114, 114, 111, 114]⟩, ⟨#[65, 116, 116, 114, 105, 98, 117, 116, 101, 69, 114, 114, 111, 114, 58, 69, 114, 114, 111, 114]⟩, ⟨#[76, 111, 111, 107, 117, 112, 69, 114, 114, 111, 114, 58, 69, 114, 114, 111, 114]⟩, ⟨#[73, 110, 100, 101, 120, 69, 114, 114, 111, 114, 58, 76, 111, 111, 107, 117, 112, 69, 114, 114, 111, 114]⟩, ⟨#[75, 101, 121, 69, 114, 114, 111, 114, 58, 76, 111, 111, 107, 117, 112, 69, 114, 114, 111, 114]⟩, ⟨#[65, 114, 105, 116, 104, 109, 101, 116, 105, 99, 69, 114, 114, 111, 114, 58, 69, 114, 114, 111, 114]⟩, ⟨#[68, 105, 118, 105, 115, 105, 111, 110, 69, 114, 114, 111, 114, 58, 65, 114, 105, 116, 104, 109, 101, 116, 105, 99, 69, 114, 114, 111, 114]⟩, ⟨#[76, 105, 109, 105, 116, 69, 114, 114, 111, 114, 58, 69, 114, 114, 111, 114]⟩, ⟨#[82, 101, 99, 117, 114, 115, 105, 111, 110, 69, 114, 114, 111, 114, 58, 76, 105, 109, 105, 116, 69, 114, 114, 111, 114]⟩, ⟨#[65, 115, 115, 101, 114, 116, 105, 111, 110, 69, 114, 114, 111, 114, 58, 69, 114, 114, 111, 114]⟩, ⟨#[73, 109, 112, 111, 114, 116, 69, 114, 114, 111, 114, 58, 69, 114, 114, 111, 114]⟩, ⟨#[83, 116, 111, 112, 69, 114, 114, 111, 114, 58, 69, 114, 114, 111, 114]⟩, ⟨#[83, 116, 97, 116, 101, 69, 114, 114, 111, 114, 58, 69, 114, 114, 111, 114]⟩, ⟨#[71, 114, 111, 117, 112, 69, 114, 114, 111, 114, 58, 69, 114, 114, 111, 114]⟩]
def nmL : List ByteArray := [⟨#[111, 98, 106, 101, 99, 116]⟩, ⟨#[99, 108, 97, 115, 115]⟩, ⟨#[110, 105, 108, 95, 116, 121, 112, 101]⟩, ⟨#[98, 111, 111, 108]⟩, ⟨#[105, 110, 116]⟩, ⟨#[114, 97, 116, 105, 111]⟩, ⟨#[116, 101, 120, 116]⟩, ⟨#[98, 121, 116, 101, 115]⟩, ⟨#[116, 117, 112, 108, 101]⟩, ⟨#[108, 105, 115, 116]⟩, ⟨#[100, 105, 99, 116]⟩, ⟨#[115, 101, 116]⟩, ⟨#[114, 97, 110, 103, 101]⟩, ⟨#[99, 101, 108, 108]⟩, ⟨#[102, 117, 110, 99, 116, 105, 111, 110]⟩, ⟨#[98, 117, 105, 108, 116, 105, 110]⟩, ⟨#[109, 101, 116, 104, 111, 100]⟩, ⟨#[109, 111, 100, 117, 108, 101]⟩, ⟨#[112, 114, 111, 112, 101, 114, 116, 121]⟩, ⟨#[115, 116, 97, 116, 105, 99]⟩, ⟨#[99, 108, 97, 115, 115, 95, 109, 101, 116, 104, 111, 100]⟩, ⟨#[115, 117, 112, 101, 114, 95, 116, 121, 112, 101]⟩, ⟨#[105, 116, 101, 114, 97, 116, 111, 114]⟩, ⟨#[103, 101, 110, 101, 114, 97, 116, 111, 114]⟩, ⟨#[119, 101, 97, 107]⟩, ⟨#[116, 97, 115, 107]⟩, ⟨#[116, 105, 109, 101, 114]⟩, ⟨#[112, 97, 115, 115, 95, 116, 121, 112, 101]⟩, ⟨#[82, 97, 105, 115, 101, 100]⟩, ⟨#[69, 120, 105, 116]⟩, ⟨#[67, 97, 110, 99, 101, 108]⟩, ⟨#[69, 114, 114, 111, 114]⟩, ⟨#[84, 121, 112, 101, 69, 114, 114, 111, 114]⟩, ⟨#[86, 97, 108, 117, 101, 69, 114, 114, 111, 114]⟩, ⟨#[78, 97, 109, 101, 69, 114, 114, 111, 114]⟩, ⟨#[85, 110, 98, 111, 117, 110, 100, 69, 114, 114, 111, 114]⟩, ⟨#[65, 116, 116, 114, 105, 98, 117, 116, 101, 69, 114, 114, 111, 114]⟩, ⟨#[76, 111, 111, 107, 117, 112, 69, 114, 114, 111, 114]⟩, ⟨#[73, 110, 100, 101, 120, 69, 114, 114, 111, 114]⟩, ⟨#[75, 101, 121, 69, 114, 114, 111, 114]⟩, ⟨#[65, 114, 105, 116, 104, 109, 101, 116, 105, 99, 69, 114, 114, 111, 114]⟩, ⟨#[68, 105, 118, 105, 115, 105, 111, 110, 69, 114, 114, 111, 114]⟩, ⟨#[76, 105, 109, 105, 116, 69, 114, 114, 111, 114]⟩, ⟨#[82, 101, 99, 117, 114, 115, 105, 111, 110, 69, 114, 114, 111, 114]⟩, ⟨#[65, 115, 115, 101, 114, 116, 105, 111, 110, 69, 114, 114, 111, 114]⟩, ⟨#[73, 109, 112, 111, 114, 116, 69, 114, 114, 111, 114]⟩, ⟨#[83, 116, 111, 112, 69, 114, 114, 111, 114]⟩, ⟨#[83, 116, 97, 116, 101, 69, 114, 114, 111, 114]⟩, ⟨#[71, 114, 111, 117, 112, 69, 114, 114, 111, 114]⟩]
def bsL : List ByteArray := [⟨#[]⟩, ⟨#[111, 98, 106, 101, 99, 116]⟩, ⟨#[111, 98, 106, 101, 99, 116]⟩, ⟨#[111, 98, 106, 101, 99, 116]⟩, ⟨#[111, 98, 106, 101, 99, 116]⟩, ⟨#[111, 98, 106, 101, 99, 116]⟩, ⟨#[111, 98, 106, 101, 99, 116]⟩, ⟨#[111, 98, 106, 101, 99, 116]⟩, ⟨#[111, 98, 106, 101, 99, 116]⟩, ⟨#[111, 98, 106, 101, 99, 116]⟩, ⟨#[111, 98, 106, 101, 99, 116]⟩, ⟨#[111, 98, 106, 101, 99, 116]⟩, ⟨#[111, 98, 106, 101, 99, 116]⟩, ⟨#[111, 98, 106, 101, 99, 116]⟩, ⟨#[111, 98, 106, 101, 99, 116]⟩, ⟨#[111, 98, 106, 101, 99, 116]⟩, ⟨#[111, 98, 106, 101, 99, 116]⟩, ⟨#[111, 98, 106, 101, 99, 116]⟩, ⟨#[111, 98, 106, 101, 99, 116]⟩, ⟨#[111, 98, 106, 101, 99, 116]⟩, ⟨#[111, 98, 106, 101, 99, 116]⟩, ⟨#[111, 98, 106, 101, 99, 116]⟩, ⟨#[111, 98, 106, 101, 99, 116]⟩, ⟨#[111, 98, 106, 101, 99, 116]⟩, ⟨#[111, 98, 106, 101, 99, 116]⟩, ⟨#[111, 98, 106, 101, 99, 116]⟩, ⟨#[111, 98, 106, 101, 99, 116]⟩, ⟨#[111, 98, 106, 101, 99, 116]⟩, ⟨#[111, 98, 106, 101, 99, 116]⟩, ⟨#[82, 97, 105, 115, 101, 100]⟩, ⟨#[82, 97, 105, 115, 101, 100]⟩, ⟨#[82, 97, 105, 115, 101, 100]⟩, ⟨#[69, 114, 114, 111, 114]⟩, ⟨#[69, 114, 114, 111, 114]⟩, ⟨#[69, 114, 114, 111, 114]⟩, ⟨#[78, 97, 109, 101, 69, 114, 114, 111, 114]⟩, ⟨#[69, 114, 114, 111, 114]⟩, ⟨#[69, 114, 114, 111, 114]⟩, ⟨#[76, 111, 111, 107, 117, 112, 69, 114, 114, 111, 114]⟩, ⟨#[76, 111, 111, 107, 117, 112, 69, 114, 114, 111, 114]⟩, ⟨#[69, 114, 114, 111, 114]⟩, ⟨#[65, 114, 105, 116, 104, 109, 101, 116, 105, 99, 69, 114, 114, 111, 114]⟩, ⟨#[69, 114, 114, 111, 114]⟩, ⟨#[76, 105, 109, 105, 116, 69, 114, 114, 111, 114]⟩, ⟨#[69, 114, 114, 111, 114]⟩, ⟨#[69, 114, 114, 111, 114]⟩, ⟨#[69, 114, 114, 111, 114]⟩, ⟨#[69, 114, 114, 111, 114]⟩, ⟨#[69, 114, 114, 111, 114]⟩]
def dvL : List Bool := [false, true, true, true, true, true, true, true, true, true, true, true, true, true, true, true, true, true, true, true, true, true, true, true, true, true, true, true, true, true, true, true, true, true, true, true, true, true, true, true, true, true, true, true, true, true, true, true, true]
def ixL : List Int := [0, 0, 0, 0, 0, 0, 0, 0, 0, 0, 0, 0, 0, 0, 0, 0, 0, 0, 0, 0, 0, 0, 0, 0, 0, 0, 0, 0, 0, 28, 28, 28, 31, 31, 31, 34, 31, 31, 37, 37, 31, 40, 31, 42, 31, 31, 31, 31, 31]
def odL : List (List Int) := [[0], [1, 0], [2, 0], [3, 0], [4, 0], [5, 0], [6, 0], [7, 0], [8, 0], [9, 0], [10, 0], [11, 0], [12, 0], [13, 0], [14, 0], [15, 0], [16, 0], [17, 0], [18, 0], [19, 0], [20, 0], [21, 0], [22, 0], [23, 0], [24, 0], [25, 0], [26, 0], [27, 0], [28, 0], [29, 28, 0], [30, 28, 0], [31, 28, 0], [32, 31, 28, 0], [33, 31, 28, 0], [34, 31, 28, 0], [35, 34, 31, 28, 0], [36, 31, 28, 0], [37, 31, 28, 0], [38, 37, 31, 28, 0], [39, 37, 31, 28, 0], [40, 31, 28, 0], [41, 40, 31, 28, 0], [42, 31, 28, 0], [43, 42, 31, 28, 0], [44, 31, 28, 0], [45, 31, 28, 0], [46, 31, 28, 0], [47, 31, 28, 0], [48, 31, 28, 0]]
def nmB (k : Nat) : ByteArray := nmL.getD k ByteArray.empty
def bsB (k : Nat) : ByteArray := bsL.getD k ByteArray.empty
def dvB (k : Nat) : Bool := dvL.getD k false
def ixB (k : Nat) : Int := ixL.getD k 0
def odB (k : Nat) : List Int := odL.getD k []
def nmS (k : Nat) : List ByteArray := (List.range k).map nmB
/-- A class of the beginning. -/
def bgO (k : Nat) : Ob := ⟨9, nmB k, 0, if dvB k then [ixB k] else [], odB k, [], [], [], 0, 0⟩
def bgS (k : Nat) : List Ob := (List.range k).map bgO
theorem bgS_len (k : Nat) : (bgS k).length = k := by simp [bgS]
theorem bgS_succ (k : Nat) : (bgS (k + 1)).map obD = (bgS k).map obD ++ [obD (bgO k)] := by rw [bgS, List.range_succ, List.map_append, List.map_append]; rfl
theorem nmS_succ (k : Nat) : (nmS (k + 1)).map sD = (nmS k).map sD ++ [sD (nmB k)] := by rw [nmS, List.range_succ, List.map_append, List.map_append]; rfl
theorem fldsL_len : fldsL.length = 49 := by decide +kernel
def fieldsS (p : ByteArray) : List ByteArray := (Lib.fields p.data.toList).map fun l => ⟨l.toArray⟩
theorem Fields_ok (p : ByteArray) {l : List ByteArray} (h : fieldsS p = l) (hp : p.size < 4294967281) (hl : l.length ≤ 9223372036854775807) (ha : p.data.toList.all (fun b => decide (b.toNat < 128)) = true) : Fn Tryz.prog 37 [.v (.string p)] (ssD l) := by
  subst h
  refine fn_rowS (t := 9) ⟨_, Tryz.func37, rfl, rfl⟩ hl fun w s vs hg hv => ?_
  rw [allV_one hv]
  obtain ⟨G, g1, g2⟩ := hg
  refine (Any.strings_Fields_core Tryz.laysFields (by kernel_rfl) p w hp (fun j b hb => of_decide_eq_true (List.all_eq_true.1 ha b (List.mem_of_getElem? hb))) fun c hc => (g2 _ _ _ (g1.space c hc)).1).mono ?_
  rintro e w' ⟨rfl, rfl⟩
  refine ⟨?_, ?_⟩
  · simp only [fieldsS, List.length_map]
  · simp only [fieldsS, List.map_map]; rfl
theorem Cut_ok (p q : ByteArray) (hp : p.size < 4294967281) {a b : ByteArray} {c : Bool} (h : Lib.cut p.data.toList q.data.toList = (a.data.toList, b.data.toList, c)) : Fn Tryz.prog 61 [.v (.string p), .v (.string q)] (.tup [.v (.string a), .v (.string b), .v (.bool c)]) := by
  refine ⟨⟨_, Tryz.func61, rfl, rfl⟩, fun w s vs hlt hg hv => ?_⟩
  rw [allV_two hv]
  obtain ⟨G, g1, g2⟩ := hg
  obtain ⟨m, hm⟩ := g1.maxLen
  refine (Any.strings_Cut Tryz.laysCut p q m w hp (g2 _ _ _ hm).1).mono ?_
  rintro e w' ⟨rfl, n, rfl⟩
  rw [h]
  exact ⟨s, _, rfl, ⟨_, rfl, rfl, rfl, rfl, trivial⟩, PStp.ofBelow hlt (below_drewN (Below.refl _ _) n)⟩
def bgK (k : Nat) : Bool := decide (Lib.cut (fldsL.getD k ByteArray.empty).data.toList [58] = ((nmB k).data.toList, (bsB k).data.toList, dvB k)) && decide ((fldsL.getD k ByteArray.empty).size ≤ 100)
  && (if dvB k then decide (ixI (nmS k) (bsB k) = ixB k) && decide (0 ≤ ixB k) && decide (ixB k < (k : Int)) && decide (odB k = (k : Int) :: odB (ixB k).toNat) else decide (odB k = [(k : Int)]))
theorem bgK_all : (List.range 49).all bgK = true := by decide +kernel
theorem bgK_at {k : Nat} (h : k < 49) : bgK k = true := List.all_eq_true.1 bgK_all k (List.mem_range.2 h)
theorem cutK {k : Nat} (h : k < 49) : Lib.cut (fldsL.getD k ByteArray.empty).data.toList [58] = ((nmB k).data.toList, (bsB k).data.toList, dvB k) ∧ (fldsL.getD k ByteArray.empty).size ≤ 100 := by
  have := bgK_at h
  simp only [bgK, Bool.and_eq_true, decide_eq_true_eq] at this
  exact this.1
theorem ixK {k : Nat} (h : k < 49) (hd : dvB k = true) : ixI (nmS k) (bsB k) = ixB k ∧ 0 ≤ ixB k ∧ ixB k < (k : Int) ∧ odB k = (k : Int) :: odB (ixB k).toNat := by
  have := bgK_at h
  simp only [bgK, Bool.and_eq_true, decide_eq_true_eq, if_pos hd] at this
  exact ⟨this.2.1.1.1, this.2.1.1.2, this.2.1.2, this.2.2⟩
theorem odK {k : Nat} (h : k < 49) (hd : dvB k = false) : odB k = [(k : Int)] := by
  have := bgK_at h
  rw [bgK, if_neg (by rw [hd]; decide)] at this
  simp only [Bool.and_eq_true, decide_eq_true_eq] at this
  exact this.2
theorem rowK {k j : Nat} (h : j < k) : ((bgS k).map obD).getD j [] = obD (bgO j) := by
  have e : ((bgS k).map obD)[j]? = some (obD (bgO j)) := by rw [bgS, List.map_map, List.getElem?_map, List.getElem?_range h]; rfl
  rw [List.getD_eq_getElem?_getD, e]; rfl
theorem Cut_at (k : Nat) (h : k < 49) : Fn Tryz.prog 61 [.v (.string (fldsL.getD k ByteArray.empty)), .v (.string ⟨#[58]⟩)] (.tup [.v (.string (nmB k)), .v (.string (bsB k)), .v (.bool (dvB k))]) :=
  Cut_ok _ _ (by have := (cutK h).2; omega) (cutK h).1
theorem odL_len (k : Nat) : (odB k).length ≤ 10 := by
  by_cases h : k < 49
  · exact of_decide_eq_true (List.all_eq_true.1 (show (List.range 49).all (fun k => decide ((odB k).length ≤ 10)) = true by decide +kernel) k (List.mem_range.2 h))
  · have : odB k = [] := by rw [odB, List.getD_eq_getElem?_getD, List.getElem?_eq_none (by show 49 ≤ k; omega)]; rfl
    rw [this]; decide
theorem nmS_len (k : Nat) : (nmS k).length = k := by simp [nmS]
theorem bgRow0 {k : Nat} (h : k < 49) (hd : dvB k = false) {K : Nat} : SubPs [.v (.int .i64 9), .v (.string (nmB k)), .v (.int .i64 0), .v (.slice none 0 0), .own K 1 [[.v (.int .i64 k)]], .v (.slice none 0 0), .v (.slice none 0 0), .v (.slice none 0 0), .v (.int .i64 0), .v (.int .i64 0)] (obD (bgO k)) :=
  ⟨SubP.refl _, SubP.refl _, SubP.refl _, SubP.nilSl (by show (if dvB k then _ else _) = _; rw [if_neg (by rw [hd]; decide)]), SubP.ownSl (by show _ = (odB k).map iD; rw [odK h hd]; rfl), SubP.nilSl rfl, SubP.nilSl rfl, SubP.nilSl rfl, SubP.refl _, SubP.refl _, trivial⟩
theorem bgRow1 {k : Nat} (h : k < 49) (hd : dvB k = true) {K : Nat} {rows : List (List D)} (hr : rows = [[.v (.int .i64 k)]] ++ (odB (ixB k).toNat).map iD) : SubPs [.v (.int .i64 9), .v (.string (nmB k)), .v (.int .i64 0), .slr false 1 [[.v (.int .i64 (ixI (nmS k) (bsB k)))]], .own K 1 rows, .v (.slice none 0 0), .v (.slice none 0 0), .v (.slice none 0 0), .v (.int .i64 0), .v (.int .i64 0)] (obD (bgO k)) :=
  ⟨SubP.refl _, SubP.refl _, SubP.refl _, SubP.slrSl (by show _ = (if dvB k then [ixB k] else []).map iD; rw [if_pos hd, (ixK h hd).1]; rfl), SubP.ownSl (by show _ = (odB k).map iD; rw [(ixK h hd).2.2.2, hr]; rfl), SubP.nilSl rfl, SubP.nilSl rfl, SubP.nilSl rfl, SubP.refl _, SubP.refl _, trivial⟩

set_option maxHeartbeats 1000000 in
theorem Begin_ok  : Fn Tryz.prog 41 [] (hpD false (bgS 49)) := by
  refine fn_ev tabT Tryz.func41 rfl rfl rfl rfl rfl rfl ?_
  intro w0 s0 mx
  refine ev_R tabT [] 100 ?_
  refine ev_R tabT [] 200 ?_
  refine ev_R tabT [] 300 ?_
  refine ev_nilCell 100 0 44 10 rfl rfl ?_
  refine ev_nilRow 2 9 1 rfl ?_
  refine ev_seq ?_
  refine ev_seq (ev_region tabT [] 400 rfl ?_)
  repeat (first | refine sat_same ?_ | refine sat_impA ?_ | refine sat_needA ?_)
  refine sat_fn _ (Fields_ok _ (l := fldsL) (by decide +kernel) (by decide +kernel) (by decide +kernel) (by decide +kernel)) rfl ?_
  repeat (first | refine sat_same ?_ | refine sat_impA ?_ | refine sat_needA ?_)
  refine sat_done ?_
  refine exS_normal ?_
  refine ev_block ?_
  refine ev_loopK (ι := Up 49 (fun _ => true)) [0, 1, 10, 11] [0] 450 (fun x => [(12, .v (.int .i64 x.k)), (2, .own 301 1 ((nmS x.k).map sD))]) (fun x => [(301, .row 9 1 ((nmS x.k).map sD).length), (100, .box 24 [.own 300 10 ((bgS x.k).map obD)]), (300, .row 44 10 ((bgS x.k).map obD).length)]) (fun x => 49 - x.k) ⟨0, Nat.zero_le _, fun j hj => by omega⟩ ?_
  refine ⟨⟨le_t, le_o, rfl, rfl⟩, fun x => ?_⟩
  have hk := x.le
  refine ev_R tabT [] 500 ?_
  refine ev_seq ?_
  refine ev_cond rfl (fun c4 => ?_) (fun c4 => ?_)
  · replace c4 := of_decide_eq_true c4
    have hk9 : x.k < 49 := by have := fldsL_len; omega
    refine ev_skip ?_
    refine exS_normal ?_
    refine ev_seq ?_
    refine ev_block ?_
    refine ev_R tabT [] 600 ?_
    refine ev_seq (ev_region tabT [] 700 rfl ?_)
    repeat (first | refine sat_same ?_ | refine sat_impA ?_ | refine sat_needA ?_)
    refine sat_fn _ (Cut_at x.k hk9) rfl ?_
    repeat (first | refine sat_same ?_ | refine sat_impA ?_ | refine sat_needA ?_)
    refine sat_done ?_
    refine exS_normal ?_
    refine ev_R tabT [25] 800 ?_
    refine ev_seq ?_
    refine ev_R tabT [] 900 ?_
    refine ev_if (fun c8 => ?_) (fun c8 => ?_)
    · 
      refine ev_seq (ev_region tabT [] 1000 rfl ?_)
      repeat (first | refine sat_same ?_ | refine sat_impA ?_ | refine sat_needA ?_)
      refine sat_fn _ ((IndexS_ok (nmS x.k) (bsB x.k)).args ⟨SubP.ownSl rfl, SubP.refl _, trivial⟩) rfl ?_
      repeat (first | refine sat_same ?_ | refine sat_impA ?_ | refine sat_needA ?_)
      refine sat_done ?_
      refine exS_normal ?_
      refine ev_drawn tabT [38] [[], [0], [], [2], [], [4], [], [4, 5, 6], [4, 5, 6, 7], [4, 5, 6, 7, 8], [2, 3, 4, 5, 6, 7, 8, 9], [0, 1, 2, 3], [0, 1, 2, 3, 4, 5, 6, 7, 8, 9, 10, 11], [0, 1, 2, 3, 4, 5, 6, 7, 8, 9, 10, 11, 12], [0, 1, 2, 3, 4, 5, 6, 7, 8, 9, 10, 11, 12, 13]] 1100 mixT (by kernel_rfl) rfl ?_
      repeat (first | refine sat_same ?_ | refine sat_impA ?_ | refine sat_needA ?_)
      refine sat_pick (obD (bgO (ixB x.k).toNat)) ⟨?_, ?_, ?_⟩ ?_
      · show 0 ≤ ixI (nmS x.k) (bsB x.k)
        rw [(ixK hk9 c8).1]; exact (ixK hk9 c8).2.1
      · show (ixI (nmS x.k) (bsB x.k)).toNat < ((bgS x.k).map obD).length
        rw [(ixK hk9 c8).1, List.length_map, bgS_len]; have := (ixK hk9 c8).2; omega
      · show ((bgS x.k).map obD).getD (ixI (nmS x.k) (bsB x.k)).toNat [] = _
        rw [(ixK hk9 c8).1]; exact rowK (by have := (ixK hk9 c8).2; omega)
      repeat (first | refine sat_same ?_ | refine sat_imp (by exact fun hh => hh) ?_ | refine sat_need (by first | rfl | (have hod := odL_len (ixB x.k).toNat; simp only [List.length_map, List.length_cons, List.length_nil, bgO]; omega)) ?_)
      refine sat_done ?_
      refine exS_normal ?_
      refine ev_seq (ev_region tabT [] 1200 rfl ?_)
      repeat (first | refine sat_same ?_ | refine sat_impA ?_ | refine sat_need (by first | rfl | (have h1 := nmS_len x.k; have h2 := bgS_len x.k; simp only [List.length_map, List.length_cons, List.length_nil]; omega)) ?_)
      refine sat_done ?_
      refine exS_normal ?_
      refine ev_region tabT [] 1300 rfl ?_
      repeat (first | refine sat_same ?_ | refine sat_impA ?_ | refine sat_need (by first | rfl | (have h1 := nmS_len x.k; have h2 := bgS_len x.k; simp only [List.length_map, List.length_cons, List.length_nil]; omega)) ?_)
      refine sat_done ?_
      refine exBl_normal ?_
      refine exS_normal ?_
      refine ev_Q tabT [] 1400 ?_
      exact exL_normal (x.next hk9 rfl) ⟨⟨Sub.refl _, Sub.own (by show _ = (nmS (x.k + 1)).map sD; rw [nmS_succ]; rfl), by repeat (first | exact trivial | exact Sub.refl _ | refine ⟨?_, ?_⟩)⟩, ⟨⟨rfl, rfl, by show _ = ((nmS (x.k + 1)).map sD).length; rw [nmS_succ]; rfl⟩, ⟨rfl, Sub.ownRows (by show RowsP _ ((bgS (x.k + 1)).map obD); rw [bgS_succ]; exact (RowsP.refl _).append ⟨bgRow1 hk9 c8 rfl, trivial⟩), rfl, trivial⟩, ⟨rfl, rfl, by show _ = ((bgS (x.k + 1)).map obD).length; rw [bgS_succ, List.length_append, List.length_append]; rfl⟩, by repeat (first | exact trivial | exact SubO.same rfl | refine ⟨?_, ?_⟩)⟩, rfl, rfl⟩ (by show 49 - (x.k + 1) < 49 - x.k; omega)
    · 
      refine ev_skip ?_
      refine exS_normal ?_
      refine ev_seq (ev_region tabT [] 1200 rfl ?_)
      repeat (first | refine sat_same ?_ | refine sat_impA ?_ | refine sat_need (by first | rfl | (have h1 := nmS_len x.k; have h2 := bgS_len x.k; simp only [List.length_map, List.length_cons, List.length_nil]; omega)) ?_)
      refine sat_done ?_
      refine exS_normal ?_
      refine ev_region tabT [] 1300 rfl ?_
      repeat (first | refine sat_same ?_ | refine sat_impA ?_ | refine sat_need (by first | rfl | (have h1 := nmS_len x.k; have h2 := bgS_len x.k; simp only [List.length_map, List.length_cons, List.length_nil]; omega)) ?_)
      refine sat_done ?_
      refine exBl_normal ?_
      refine exS_normal ?_
      refine ev_Q tabT [] 1400 ?_
      exact exL_normal (x.next hk9 rfl) ⟨⟨Sub.refl _, Sub.own (by show _ = (nmS (x.k + 1)).map sD; rw [nmS_succ]; rfl), by repeat (first | exact trivial | exact Sub.refl _ | refine ⟨?_, ?_⟩)⟩, ⟨⟨rfl, rfl, by show _ = ((nmS (x.k + 1)).map sD).length; rw [nmS_succ]; rfl⟩, ⟨rfl, Sub.ownRows (by show RowsP _ ((bgS (x.k + 1)).map obD); rw [bgS_succ]; exact (RowsP.refl _).append ⟨bgRow0 hk9 c8, trivial⟩), rfl, trivial⟩, ⟨rfl, rfl, by show _ = ((bgS (x.k + 1)).map obD).length; rw [bgS_succ, List.length_append, List.length_append]; rfl⟩, by repeat (first | exact trivial | exact SubO.same rfl | refine ⟨?_, ?_⟩)⟩, rfl, rfl⟩ (by show 49 - (x.k + 1) < 49 - x.k; omega)
  · replace c4 := of_decide_eq_false c4
    have hxk : x.k = 49 := by have := fldsL_len; omega
    refine ev_exit ?_
    refine exS_exit ?_
    refine exL_exit ?_
    refine exBl_same ?_
    refine exS_normal ?_
    refine ev_R tabT [] 1500 ?_
    refine ev_ret ?_
    exact FinV.ret rfl (SubP.agg ⟨SubP.ownSl (by rw [hxk]), trivial⟩)

end Go.Proofs.YtonogeiopicibaaGreatDoor

/- Walks by the evaluator: Problem: what a heap must be. -/
namespace Go.Proofs.YtonogeiopicibaaGreatDoor
open Go.RowKit
variable {md me : Bool}

def sumN (f : Nat → Nat) : Nat → Nat
  | 0 => 0
  | k + 1 => sumN f k + f k
theorem sumN_le {f : Nat → Nat} {B : Nat} (h : ∀ i, f i ≤ B) : ∀ k, sumN f k ≤ k * B
  | 0 => by simp [sumN]
  | k + 1 => by rw [sumN, Nat.add_mul]; have := sumN_le h k; have := h k; omega
/-- The first that is not 0. -/
def fstC : List Int → Int
  | [] => 0
  | c :: l => if c = 0 then fstC l else c
theorem fstC_at : ∀ {l : List Int} {k : Nat}, (∀ j, j < k → l.getD j 0 = 0) → l.getD k 0 ≠ 0 → fstC l = l.getD k 0
  | [], k, _, h => absurd (by simp) h
  | c :: l, 0, _, h => by rw [fstC, if_neg (by simpa using h)]; rfl
  | c :: l, k + 1, h, hk => by
    have h0 : c = 0 := by simpa using h 0 (by omega)
    rw [fstC, if_pos h0, fstC_at (l := l) (k := k) (fun j hj => by simpa using h (j + 1) (by omega)) (by simpa using hk)]
    simp
theorem fstC_none : ∀ {l : List Int}, (∀ j, j < l.length → l.getD j 0 = 0) → fstC l = 0
  | [], _ => rfl
  | c :: l, h => by
    have h0 : c = 0 := by simpa using h 0 (by simp)
    rw [fstC, if_pos h0]
    exact fstC_none fun j hj => by simpa using h (j + 1) (by simp; omega)
def fourS (h : List Ob) (o : Ob) : List Int := [shapeS o, sizesS o, namesS o, valuesS h o]
/-- The code of the first fault of an object; 0 where there is none. -/
noncomputable def codeS (h : List Ob) (i : Nat) : Int :=
  if (i : Int) < 49 then (if obAt h i = bgO i then 0 else 19)
  else if (obAt h i).kind < 0 ∨ 21 ≤ (obAt h i).kind then 5
  else if fstC (fourS h (obAt h i)) = 0 then
    (if linksS h (obAt h i) i = true then (if keyS h (obAt h i) = 0 then (if orderOkS h (obAt h i) i = true then 0 else 19) else keyS h (obAt h i)) else 13)
  else fstC (fourS h (obAt h i))
def nodN (h : List Ob) (i : Nat) : Nat := if (i : Int) < 49 then (obAt h i).refs.length else (obAt h i).items.length + (obAt h i).keys.length + (obAt h i).refs.length
abbrev kvs (o : Ob) : List Vl := o.items ++ o.keys
def bytO (o : Ob) (k : Nat) : Nat := sumN (fun j => ((kvs o).getD j vl0).s.size) k
theorem bytO_succ (o : Ob) (k : Nat) : bytO o (k + 1) = bytO o k + ((kvs o).getD k vl0).s.size := rfl
def bytN (h : List Ob) (i : Nat) : Nat := if (i : Int) < 49 then 0 else bytO (obAt h i) (kvs (obAt h i)).length
/-- What Problem answers. -/
noncomputable def problemS (h : List Ob) : Int × Int :=
  if 5000 < (h.length : Int) then (2, -1) else if (h.length : Int) < 49 then (9, -1)
  else match (List.range h.length).find? (fun i => !decide (codeS h i = 0)) with
    | some i => (codeS h i, i)
    | none => if 20000 < sumN (nodN h) h.length ∨ 200000 < sumN (bytN h) h.length then (14, -1) else (0, 0)
def prD (p : Int × Int) : D := .agg [.v (.int .i64 p.1), .v (.int .i64 p.2)]
noncomputable abbrev okI (h : List Ob) (i : Nat) : Bool := decide (codeS h i = 0)
theorem pr_at {h : List Ob} (h1 : ¬ 5000 < (h.length : Int)) (h2 : ¬ (h.length : Int) < 49) (x : Up h.length (okI h)) (hk : x.k < h.length) {c : Int} (hc : codeS h x.k = c) (hne : c ≠ 0) : problemS h = (c, (x.k : Int)) := by
  subst hc
  have : (List.range h.length).find? (fun i => !decide (codeS h i = 0)) = some x.k := by
    rw [List.find?_range_eq_some]
    exact ⟨by simpa using hne, List.mem_range.2 hk, fun j hj => by have := x.all j hj; simpa using this⟩
  rw [problemS, if_neg h1, if_neg h2, this]
theorem pr_none {h : List Ob} (h1 : ¬ 5000 < (h.length : Int)) (h2 : ¬ (h.length : Int) < 49) (x : Up h.length (okI h)) (hk : ¬ x.k < h.length) : problemS h = if 20000 < sumN (nodN h) h.length ∨ 200000 < sumN (bytN h) h.length then (14, -1) else (0, 0) := by
  have : (List.range h.length).find? (fun i => !decide (codeS h i = 0)) = none := by
    rw [List.find?_range_eq_none]
    exact fun j hj => by have := x.all j (by omega); simpa using this
  rw [problemS, if_neg h1, if_neg h2, this]
theorem bg_at {k : Nat} (hk : (k : Int) < 49) : (bgS 49).getD k ob0 = bgO k := by
  have e : (bgS 49)[k]? = some (bgO k) := by rw [bgS, List.getElem?_map, List.getElem?_range (by omega)]; rfl
  rw [List.getD_eq_getElem?_getD, e]; rfl
theorem nodN_le {h : List Ob} (hh : HpIn h) (i : Nat) : nodN h i ≤ 6000000 := by
  have hO : ObIn (obAt h i) := hh.at i
  have h1 := hO.il; have h2 := hO.kl; have h3 := hO.rl
  unfold nodN
  split <;> omega
theorem bytO_le {o : Ob} (hO : ObIn o) (k : Nat) : bytO o k ≤ k * 2000000 :=
  sumN_le (fun j => by
    have : VlIn ((kvs o).getD j vl0) := vlAt_in (fun v hv => (List.mem_append.1 hv).elim (hO.iv v) (hO.kv v)) j
    exact this.s) k
theorem bytO_le' {o : Ob} (hO : ObIn o) {k : Nat} (hk : k ≤ (kvs o).length) : bytO o k ≤ 8000000000000 := by
  have h1 := bytO_le hO k
  have h2 : (kvs o).length = o.items.length + o.keys.length := List.length_append
  have h3 := hO.il; have h4 := hO.kl
  omega
theorem bytN_le {h : List Ob} (hh : HpIn h) (i : Nat) : bytN h i ≤ 8000000000000 := by
  unfold bytN
  split
  · omega
  · exact bytO_le' (hh.at i) (Nat.le_refl _)

set_option maxHeartbeats 2000000 in
theorem Problem_ok (h : List Ob) (hh : HpIn h) : Fn Tryz.prog 18 [hpD md h] (prD (problemS h)) := by
  have hlh := hh.len
  refine fn_ev tabT Tryz.func18 rfl rfl rfl rfl rfl rfl ?_
  intro w0 s0 mx
  refine ev_R tabT [] 100 ?_
  refine ev_seq ?_
  refine ev_seq (ev_region tabT [] 200 rfl ?_)
  repeat (first | refine sat_same ?_ | refine sat_impA ?_ | refine sat_need (by first | omega | (simp only [List.length_map]; omega)) ?_)
  refine sat_done ?_
  refine exS_normal ?_
  refine ev_cond rfl (fun c1 => ?_) (fun c1 => ?_)
  · replace c1 := of_decide_eq_true c1
    refine ev_seq (ev_region tabT [] 300 rfl ?_)
    repeat (first | refine sat_same ?_ | refine sat_impA ?_ | refine sat_needA ?_)
    refine sat_fn _ (At_ok _ _) rfl ?_
    repeat (first | refine sat_same ?_ | refine sat_impA ?_ | refine sat_needA ?_)
    refine sat_done ?_
    refine exS_normal ?_
    refine ev_ret ?_
    refine exS_ret ?_
    exact FinV.ret rfl (SubP.of_eq (by rw [problemS, if_pos c1]; rfl))
  · replace c1 := of_decide_eq_false c1
    refine ev_skip ?_
    refine exS_normal ?_
    refine ev_seq ?_
    refine ev_R tabT [] 400 ?_
    refine ev_cond rfl (fun c3 => ?_) (fun c3 => ?_)
    · replace c3 := of_decide_eq_true c3
      refine ev_seq (ev_region tabT [] 500 rfl ?_)
      repeat (first | refine sat_same ?_ | refine sat_impA ?_ | refine sat_needA ?_)
      refine sat_fn _ (At_ok _ _) rfl ?_
      repeat (first | refine sat_same ?_ | refine sat_impA ?_ | refine sat_needA ?_)
      refine sat_done ?_
      refine exS_normal ?_
      refine ev_ret ?_
      refine exS_ret ?_
      exact FinV.ret rfl (SubP.of_eq (by rw [problemS, if_neg c1, if_pos c3]; rfl))
    · replace c3 := of_decide_eq_false c3
      refine ev_skip ?_
      refine exS_normal ?_
      refine ev_seq (ev_region tabT [] 600 rfl ?_)
      repeat (first | refine sat_same ?_ | refine sat_impA ?_ | refine sat_needA ?_)
      refine sat_fn _ (Begin_ok) rfl ?_
      repeat (first | refine sat_same ?_ | refine sat_impA ?_ | refine sat_needA ?_)
      refine sat_done ?_
      refine exS_normal ?_
      refine ev_R tabT [] 700 ?_
      refine ev_seq ?_
      refine ev_R tabT [] 800 ?_
      refine ev_block ?_
      refine ev_loopK (ι := Up h.length (okI h)) [1, 2, 3, 25, 26] [0, 1, 401] 850 (fun x => [(27, .v (.int .i64 x.k)), (4, .v (.int .i64 (sumN (nodN h) x.k : Nat))), (5, .v (.int .i64 (sumN (bytN h) x.k : Nat)))]) (fun _ => []) (fun x => h.length - x.k) ⟨0, Nat.zero_le _, fun j hj => by omega⟩ ?_
      refine ⟨⟨le_t, le_o, rfl, rfl⟩, fun x => ?_⟩
      have hk := x.le
      refine ev_R tabT [] 900 ?_
      refine ev_seq ?_
      refine ev_cond rfl (fun c8 => ?_) (fun c8 => ?_)
      · replace c8 := of_decide_eq_true c8
        replace c8 : x.k < h.length := by omega
        have hn : inH h (x.k : Int) := ⟨by omega, by omega⟩
        have hO : ObIn (h.getD (x.k : Int).toNat ob0) := hh.at x.k
        have hil := hO.il
        have hkl := hO.kl
        have hrl := hO.rl
        have hb4 := sumN_le (nodN_le hh) x.k
        have hb5 := sumN_le (bytN_le hh) x.k
        have hvl : (kvs (h.getD (x.k : Int).toNat ob0)).length = (h.getD (x.k : Int).toNat ob0).items.length + (h.getD (x.k : Int).toNat ob0).keys.length := List.length_append
        refine ev_skip ?_
        refine exS_normal ?_
        refine ev_seq ?_
        refine ev_block ?_
        refine ev_R tabT [] 1000 ?_
        refine ev_seq ?_
        refine ev_R tabT [] 1100 ?_
        refine ev_cond rfl (fun c10 => ?_) (fun c10 => ?_)
        · replace c10 := of_decide_eq_true c10
          refine ev_seq ?_
          refine ev_seq (ev_drawn tabT [] [[], [], [1], [], [1, 2, 3], [1, 2, 3, 4], [0, 1, 2, 3, 4, 5], [0, 1, 2, 3, 4, 5, 6]] 1200 mixT (by kernel_rfl) rfl ?_)
          repeat (first | refine sat_same ?_ | refine sat_impA ?_ | refine sat_need (by first | exact ⟨by omega, by show _ < (bgS 49).length; rw [bgS_len]; omega⟩ | (simp only [bgS_len]; omega)) ?_)
          refine sat_fn _ (SameObject_ok _ _) rfl ?_
          repeat (first | refine sat_same ?_ | refine sat_impA ?_ | refine sat_need (by first | exact ⟨by omega, by show _ < (bgS 49).length; rw [bgS_len]; omega⟩ | (simp only [bgS_len]; omega)) ?_)
          refine sat_done ?_
          refine exS_normal ?_
          refine ev_cond rfl (fun c11 => ?_) (fun c11 => ?_)
          · replace c11 : (!decide ((h.getD (x.k : Int).toNat ob0) = (bgS 49).getD x.k ob0)) = true := c11
            rw [bg_at c10] at c11
            replace c11 : ¬ obAt h x.k = bgO x.k := by simpa using c11
            refine ev_seq (ev_region tabT [] 1300 rfl ?_)
            repeat (first | refine sat_same ?_ | refine sat_impA ?_ | refine sat_needA ?_)
            refine sat_fn _ (At_ok _ _) rfl ?_
            repeat (first | refine sat_same ?_ | refine sat_impA ?_ | refine sat_needA ?_)
            refine sat_done ?_
            refine exS_normal ?_
            refine ev_ret ?_
            refine exS_ret ?_
            refine exS_ret ?_
            refine exBl_ret ?_
            refine exS_ret ?_
            refine exL_ret ?_
            refine exBl_ret ?_
            refine exS_ret ?_
            exact FinV.ret rfl (SubP.of_eq (by rw [pr_at c1 c3 x c8 (by unfold codeS; rw [if_pos c10, if_neg c11]) (by decide)]; rfl))
          · replace c11 : (!decide ((h.getD (x.k : Int).toNat ob0) = (bgS 49).getD x.k ob0)) = false := c11
            rw [bg_at c10] at c11
            replace c11 : obAt h x.k = bgO x.k := by simpa using c11
            refine ev_skip ?_
            refine exS_normal ?_
            refine ev_R tabT [] 1400 ?_
            refine ev_exit ?_
            refine exS_exit ?_
            refine exBl_same ?_
            refine exS_normal ?_
            refine ev_Q tabT [] 3600 ?_
            exact exL_normal (x.next c8 (decide_eq_true (show codeS h x.k = 0 by unfold codeS; exact by rw [if_pos c10, if_pos c11]))) ⟨⟨Sub.int (by show _ = ((x.k + 1 : Nat) : Int); push_cast; rfl), Sub.int (by show _ = ((sumN (nodN h) (x.k + 1) : Nat) : Int); rw [sumN, nodN, if_pos c10]; push_cast; rfl), Sub.int (by show _ = ((sumN (bytN h) (x.k + 1) : Nat) : Int); rw [sumN, bytN, if_pos c10, Nat.add_zero]), by repeat (first | exact trivial | exact Sub.refl _ | refine ⟨?_, ?_⟩)⟩, le_o, rfl, rfl⟩ (by show h.length - (x.k + 1) < h.length - x.k; omega)
        · replace c10 := of_decide_eq_false c10
          refine ev_skip ?_
          refine exS_normal ?_
          refine ev_seq ?_
          refine ev_R tabT [] 1500 ?_
          refine ev_cond rfl (fun c14 => ?_) (fun c14 => ?_)
          · try simp only [decide_eq_true_eq, Bool.or_eq_true] at c14
            refine ev_seq (ev_region tabT [] 1600 rfl ?_)
            repeat (first | refine sat_same ?_ | refine sat_impA ?_ | refine sat_needA ?_)
            refine sat_fn _ (At_ok _ _) rfl ?_
            repeat (first | refine sat_same ?_ | refine sat_impA ?_ | refine sat_needA ?_)
            refine sat_done ?_
            refine exS_normal ?_
            refine ev_ret ?_
            refine exS_ret ?_
            refine exBl_ret ?_
            refine exS_ret ?_
            refine exL_ret ?_
            refine exBl_ret ?_
            refine exS_ret ?_
            exact FinV.ret rfl (SubP.of_eq (by rw [pr_at c1 c3 x c8 (by unfold codeS; rw [if_neg c10, if_pos c14]) (by decide)]; rfl))
          · have c14n := c14
            try simp only [decide_eq_false_iff_not, Bool.or_eq_false_iff] at c14n
            replace c14 : ¬ ((h.getD (x.k : Int).toNat ob0).kind < 0 ∨ 21 ≤ (h.getD (x.k : Int).toNat ob0).kind) := by omega
            have hkd : 0 ≤ (h.getD (x.k : Int).toNat ob0).kind ∧ (h.getD (x.k : Int).toNat ob0).kind < 21 := by omega
            refine ev_skip ?_
            refine exS_normal ?_
            refine ev_seq ?_
            refine ev_seq (ev_drawn tabT [] [[], [], [0, 1], [], [], [0, 1, 2, 3, 4], [], [], [0, 1, 2, 3, 4, 5, 6, 7], [], [], [0, 1, 2, 3, 4, 5, 6, 7, 8, 9, 10], [0, 1, 2, 3, 4, 5, 6, 7, 8, 9, 10, 11], [0, 1, 2, 3, 4, 5, 6, 7, 8, 9, 10, 11, 12], []] 1700 mixT (by kernel_rfl) rfl ?_)
            repeat (first | refine sat_same ?_ | refine sat_impA ?_ | refine sat_needA ?_)
            refine sat_fn _ (shape_ok _ _ (by first | assumption | omega | (simp_all; done)) (by first | assumption | omega | (simp_all; done))) rfl ?_
            repeat (first | refine sat_same ?_ | refine sat_impA ?_ | refine sat_needA ?_)
            refine sat_fn _ (sizes_ok _ _ (by first | assumption | omega | (simp_all; done)) (by first | assumption | omega | (simp_all; done)) (by first | assumption | omega | (simp_all; done))) rfl ?_
            repeat (first | refine sat_same ?_ | refine sat_impA ?_ | refine sat_needA ?_)
            refine sat_fn _ (names_ok _ _ (by first | assumption | omega | (simp_all; done)) (by first | assumption | omega | (simp_all; done))) rfl ?_
            repeat (first | refine sat_same ?_ | refine sat_impA ?_ | refine sat_needA ?_)
            refine sat_fn _ (values_ok _ _ (by first | assumption | omega | (simp_all; done)) (by first | assumption | omega | (simp_all; done))) rfl ?_
            repeat (first | refine sat_same ?_ | refine sat_impA ?_ | refine sat_needA ?_)
            refine sat_done ?_
            refine exS_normal ?_
            refine ev_tell [1, 2, 3, 4, 5, 6, 7, 25, 26, 27] [0, 1, 401, 903] 1710 [(71, isD (fourS h (h.getD (x.k : Int).toNat ob0))), (72, .v (.int .i64 4)), (73, .v (.int .i64 0))] [] ?_
            refine ⟨⟨⟨Sub.slrSl rfl, Sub.refl _, Sub.refl _, by repeat (first | exact trivial | exact Sub.refl _ | refine ⟨?_, ?_⟩)⟩, le_o, rfl, rfl⟩, ?_⟩
            refine ev_block ?_
            refine ev_loopK (ι := Up 4 (fun j => decide ((fourS h (h.getD (x.k : Int).toNat ob0)).getD j 0 = 0))) [1, 2, 3, 4, 5, 6, 7, 25, 26, 27, 71, 72] [0, 1, 401, 903] 1750 (fun y => [(73, .v (.int .i64 y.k))]) (fun _ => []) (fun y => 4 - y.k) ⟨0, Nat.zero_le _, fun j hj => by omega⟩ ?_
            refine ⟨⟨le_t, le_o, rfl, rfl⟩, fun y => ?_⟩
            have hky := y.le
            refine ev_R tabT [] 1800 ?_
            refine ev_seq ?_
            refine ev_cond rfl (fun c17 => ?_) (fun c17 => ?_)
            · replace c17 := of_decide_eq_true c17
              replace c17 : y.k < 4 := by omega
              have hy : ∀ j, j < y.k → (fourS h (h.getD (x.k : Int).toNat ob0)).getD j 0 = 0 := fun j hj => of_decide_eq_true (y.all j hj)
              refine ev_skip ?_
              refine exS_normal ?_
              refine ev_seq ?_
              refine ev_block ?_
              refine ev_seq (ev_region tabT [] 1900 rfl ?_)
              repeat (first | refine sat_same ?_ | refine sat_impA ?_ | refine sat_need (by exact ⟨by omega, by show _ < 4; omega⟩) ?_)
              refine sat_done ?_
              refine exS_normal ?_
              refine ev_R tabT [] 2000 ?_
              refine ev_cond rfl (fun c19 => ?_) (fun c19 => ?_)
              · replace c19 : ¬ (fourS h (h.getD (x.k : Int).toNat ob0)).getD y.k 0 = 0 := by simpa using c19
                refine ev_seq (ev_region tabT [] 2100 rfl ?_)
                repeat (first | refine sat_same ?_ | refine sat_impA ?_ | refine sat_needA ?_)
                refine sat_fn _ (At_ok _ _) rfl ?_
                repeat (first | refine sat_same ?_ | refine sat_impA ?_ | refine sat_needA ?_)
                refine sat_done ?_
                refine exS_normal ?_
                refine ev_ret ?_
                refine exBl_ret ?_
                refine exS_ret ?_
                refine exL_ret ?_
                refine exBl_ret ?_
                refine exS_ret ?_
                refine exBl_ret ?_
                refine exS_ret ?_
                refine exL_ret ?_
                refine exBl_ret ?_
                refine exS_ret ?_
                exact FinV.ret rfl (SubP.of_eq (by rw [pr_at c1 c3 x c8 (by unfold codeS; rw [if_neg c10, if_neg c14, if_neg (by rw [fstC_at hy c19]; exact c19), fstC_at hy c19]) (c19)]; rfl))
              · replace c19 : (fourS h (h.getD (x.k : Int).toNat ob0)).getD y.k 0 = 0 := by simpa using c19
                refine ev_skip ?_
                refine exBl_normal ?_
                refine exS_normal ?_
                refine ev_Q tabT [] 2200 ?_
                exact exL_normal (y.next c17 (decide_eq_true c19)) ⟨⟨Sub.int (by show _ = ((y.k + 1 : Nat) : Int); push_cast; rfl), by repeat (first | exact trivial | exact Sub.refl _ | refine ⟨?_, ?_⟩)⟩, le_o, rfl, rfl⟩ (by show 4 - (y.k + 1) < 4 - y.k; omega)
            · replace c17 := of_decide_eq_false c17
              have hyk4 : y.k = 4 := by omega
              have hy : ∀ j, j < 4 → (fourS h (h.getD (x.k : Int).toNat ob0)).getD j 0 = 0 := fun j hj => of_decide_eq_true (y.all j (by omega))
              have h4 : fstC (fourS h (h.getD (x.k : Int).toNat ob0)) = 0 := fstC_none hy
              have hsh : shapeS (h.getD (x.k : Int).toNat ob0) = 0 := hy 0 (by omega)
              have hvs : valuesS h (h.getD (x.k : Int).toNat ob0) = 0 := hy 3 (by omega)
              have hV : Vs h (h.getD (x.k : Int).toNat ob0) := vs_of hvs
              refine ev_exit ?_
              refine exS_exit ?_
              refine exL_exit ?_
              refine exBl_same ?_
              refine exS_normal ?_
              refine ev_seq ?_
              refine ev_seq (ev_region tabT [] 2300 rfl ?_)
              repeat (first | refine sat_same ?_ | refine sat_impA ?_ | refine sat_needA ?_)
              refine sat_fn _ (links_ok _ _ (by first | assumption | omega | (simp_all; done)) (by first | assumption | omega | (simp_all; done)) (by first | assumption | omega | (simp_all; done)) (by first | assumption | omega | (simp_all; done))) rfl ?_
              repeat (first | refine sat_same ?_ | refine sat_impA ?_ | refine sat_needA ?_)
              refine sat_done ?_
              refine exS_normal ?_
              refine ev_cond rfl (fun c22 => ?_) (fun c22 => ?_)
              · replace c22 : ¬ linksS h (obAt h x.k) x.k = true := by simpa using c22
                refine ev_seq (ev_region tabT [] 2400 rfl ?_)
                repeat (first | refine sat_same ?_ | refine sat_impA ?_ | refine sat_needA ?_)
                refine sat_fn _ (At_ok _ _) rfl ?_
                repeat (first | refine sat_same ?_ | refine sat_impA ?_ | refine sat_needA ?_)
                refine sat_done ?_
                refine exS_normal ?_
                refine ev_ret ?_
                refine exS_ret ?_
                refine exBl_ret ?_
                refine exS_ret ?_
                refine exL_ret ?_
                refine exBl_ret ?_
                refine exS_ret ?_
                exact FinV.ret rfl (SubP.of_eq (by rw [pr_at c1 c3 x c8 (by unfold codeS; rw [if_neg c10, if_neg c14, if_pos h4, if_neg c22]) (by decide)]; rfl))
              · replace c22 : linksS h (obAt h x.k) x.k = true := by simpa using c22
                refine ev_skip ?_
                refine exS_normal ?_
                refine ev_seq ?_
                refine ev_seq (ev_region tabT [] 2500 rfl ?_)
                repeat (first | refine sat_same ?_ | refine sat_impA ?_ | refine sat_needA ?_)
                refine sat_fn _ (keyRule_ok _ _ (by first | assumption | omega | (simp_all; done)) (by first | assumption | omega | (simp_all; done))) rfl ?_
                repeat (first | refine sat_same ?_ | refine sat_impA ?_ | refine sat_needA ?_)
                refine sat_done ?_
                refine exS_normal ?_
                refine ev_R tabT [] 2600 ?_
                refine ev_cond rfl (fun c25 => ?_) (fun c25 => ?_)
                · replace c25 : ¬ keyS h (obAt h x.k) = 0 := by simpa using c25
                  refine ev_seq (ev_region tabT [] 2700 rfl ?_)
                  repeat (first | refine sat_same ?_ | refine sat_impA ?_ | refine sat_needA ?_)
                  refine sat_fn _ (At_ok _ _) rfl ?_
                  repeat (first | refine sat_same ?_ | refine sat_impA ?_ | refine sat_needA ?_)
                  refine sat_done ?_
                  refine exS_normal ?_
                  refine ev_ret ?_
                  refine exS_ret ?_
                  refine exBl_ret ?_
                  refine exS_ret ?_
                  refine exL_ret ?_
                  refine exBl_ret ?_
                  refine exS_ret ?_
                  exact FinV.ret rfl (SubP.of_eq (by rw [pr_at c1 c3 x c8 (by unfold codeS; rw [if_neg c10, if_neg c14, if_pos h4, if_pos c22, if_neg c25]) (c25)]; rfl))
                · replace c25 : keyS h (obAt h x.k) = 0 := by simpa using c25
                  refine ev_skip ?_
                  refine exS_normal ?_
                  refine ev_seq ?_
                  refine ev_seq (ev_region tabT [] 2800 rfl ?_)
                  repeat (first | refine sat_same ?_ | refine sat_impA ?_ | refine sat_needA ?_)
                  refine sat_fn _ (orderOk_ok _ _ hn hh (fun _ r hr => isObj_in (hV.refs r hr))) rfl ?_
                  repeat (first | refine sat_same ?_ | refine sat_impA ?_ | refine sat_needA ?_)
                  refine sat_done ?_
                  refine exS_normal ?_
                  refine ev_cond rfl (fun c27 => ?_) (fun c27 => ?_)
                  · replace c27 : ¬ orderOkS h (obAt h x.k) x.k = true := by simpa using c27
                    refine ev_seq (ev_region tabT [] 2900 rfl ?_)
                    repeat (first | refine sat_same ?_ | refine sat_impA ?_ | refine sat_needA ?_)
                    refine sat_fn _ (At_ok _ _) rfl ?_
                    repeat (first | refine sat_same ?_ | refine sat_impA ?_ | refine sat_needA ?_)
                    refine sat_done ?_
                    refine exS_normal ?_
                    refine ev_ret ?_
                    refine exS_ret ?_
                    refine exBl_ret ?_
                    refine exS_ret ?_
                    refine exL_ret ?_
                    refine exBl_ret ?_
                    refine exS_ret ?_
                    exact FinV.ret rfl (SubP.of_eq (by rw [pr_at c1 c3 x c8 (by unfold codeS; rw [if_neg c10, if_neg c14, if_pos h4, if_pos c22, if_pos c25, if_neg c27]) (by decide)]; rfl))
                  · replace c27 : orderOkS h (obAt h x.k) x.k = true := by simpa using c27
                    refine ev_skip ?_
                    refine exS_normal ?_
                    refine ev_R tabT [] 3000 ?_
                    refine ev_seq (ev_drawn tabT [118] [[], [0], [0, 1], [], [3], [0, 1, 2, 3, 4], [0, 1, 2, 3, 4, 5], []] 3100 mixT (by kernel_rfl) rfl ?_)
                    repeat (first | refine sat_same ?_ | refine sat_impA ?_ | refine sat_need (by first | rfl | omega | (simp only [List.length_map]; omega)) ?_)
                    refine sat_fnO _ _ _ (CloneV_ok _ (by first | assumption | omega | (simp_all; done))) ?_
                    repeat (first | refine sat_same ?_ | refine sat_impA ?_ | refine sat_need (by first | rfl | omega | (simp only [List.length_map]; omega)) ?_)
                    refine sat_done ?_
                    refine exS_normal ?_
                    refine ev_tell [1, 2, 3, 4, 5, 25, 26, 27] [0, 1, 401] 3110 [(121, .sl false 7 (kvs (h.getD (x.k : Int).toNat ob0)) vlD vl0), (122, .v (.int .i64 (kvs (h.getD (x.k : Int).toNat ob0)).length)), (123, .v (.int .i64 0))] [] ?_
                    refine ⟨⟨⟨Sub.ownSl (by rw [← List.map_append]), Sub.int (by simp), Sub.refl _, by repeat (first | exact trivial | exact Sub.refl _ | refine ⟨?_, ?_⟩)⟩, le_o, rfl, rfl⟩, ?_⟩
                    refine ev_block ?_
                    refine ev_loopK (ι := Up (kvs (h.getD (x.k : Int).toNat ob0)).length (fun _ => true)) [1, 2, 3, 4, 25, 26, 27, 121, 122] [0, 1, 401] 3150 (fun z => [(123, .v (.int .i64 z.k)), (5, .v (.int .i64 ((sumN (bytN h) x.k + bytO (h.getD (x.k : Int).toNat ob0) z.k : Nat) : Int)))]) (fun _ => []) (fun z => (kvs (h.getD (x.k : Int).toNat ob0)).length - z.k) ⟨0, Nat.zero_le _, fun j hj => by omega⟩ ?_
                    refine ⟨⟨le_t, le_o, rfl, rfl⟩, fun z => ?_⟩
                    have hkz := z.le
                    refine ev_R tabT [] 3200 ?_
                    refine ev_seq ?_
                    refine ev_cond rfl (fun c31 => ?_) (fun c31 => ?_)
                    · replace c31 := of_decide_eq_true c31
                      replace c31 : z.k < (kvs (h.getD (x.k : Int).toNat ob0)).length := by omega
                      have hb6 := bytO_le' hO z.le
                      have hvz : VlIn ((kvs (h.getD (x.k : Int).toNat ob0)).getD z.k vl0) := vlAt_in (fun v hv => (List.mem_append.1 hv).elim (hO.iv v) (hO.kv v)) z.k
                      have hvs6 : ((kvs (h.getD (x.k : Int).toNat ob0)).getD (z.k : Int).toNat vl0).s.size ≤ 2000000 := hvz.s
                      refine ev_skip ?_
                      refine exS_normal ?_
                      refine ev_seq ?_
                      refine ev_block ?_
                      refine ev_R tabT [] 3300 ?_
                      refine ev_region tabT [] 3400 rfl ?_
                      repeat (first | refine sat_same ?_ | refine sat_impA ?_ | refine sat_need (by first | exact ini (by omega) (by omega) | omega) ?_)
                      refine sat_done ?_
                      refine exBl_normal ?_
                      refine exS_normal ?_
                      refine ev_Q tabT [] 3500 ?_
                      exact exL_normal (z.next c31 rfl) ⟨⟨Sub.int (by show _ = ((z.k + 1 : Nat) : Int); push_cast; rfl), Sub.int (by show _ = ((sumN (bytN h) x.k + bytO (h.getD (x.k : Int).toNat ob0) (z.k + 1) : Nat) : Int); rw [bytO_succ]; simp only [Int.toNat_natCast]; push_cast; omega), by repeat (first | exact trivial | exact Sub.refl _ | refine ⟨?_, ?_⟩)⟩, le_o, rfl, rfl⟩ (by show (kvs (h.getD (x.k : Int).toNat ob0)).length - (z.k + 1) < (kvs (h.getD (x.k : Int).toNat ob0)).length - z.k; omega)
                    · replace c31 := of_decide_eq_false c31
                      have hyk : z.k = (kvs (h.getD (x.k : Int).toNat ob0)).length := by have := z.le; omega
                      refine ev_exit ?_
                      refine exS_exit ?_
                      refine exL_exit ?_
                      refine exBl_same ?_
                      refine exBl_normal ?_
                      refine exS_normal ?_
                      refine ev_Q tabT [] 3600 ?_
                      exact exL_normal (x.next c8 (decide_eq_true (show codeS h x.k = 0 by unfold codeS; exact by rw [if_neg c10, if_neg c14, if_pos h4, if_pos c22, if_pos c25, if_pos c27]))) ⟨⟨Sub.int (by show _ = ((x.k + 1 : Nat) : Int); push_cast; rfl), Sub.int (by show _ = ((sumN (nodN h) (x.k + 1) : Nat) : Int); rw [sumN, nodN, if_neg c10]; push_cast; rfl), Sub.int (by show _ = ((sumN (bytN h) (x.k + 1) : Nat) : Int); rw [sumN, bytN, if_neg c10]; rw [show bytO (obAt h x.k) (kvs (obAt h x.k)).length = bytO (h.getD (x.k : Int).toNat ob0) z.k from (congrArg (bytO (h.getD (x.k : Int).toNat ob0)) hyk).symm]; try (push_cast; rfl)), by repeat (first | exact trivial | exact Sub.refl _ | refine ⟨?_, ?_⟩)⟩, le_o, rfl, rfl⟩ (by show h.length - (x.k + 1) < h.length - x.k; omega)
      · replace c8 := of_decide_eq_false c8
        replace c8 : ¬ x.k < h.length := by omega
        have hxk : x.k = h.length := by omega
        refine ev_exit ?_
        refine exS_exit ?_
        refine exL_exit ?_
        refine exBl_same ?_
        refine exS_normal ?_
        refine ev_seq ?_
        refine ev_R tabT [] 3700 ?_
        refine ev_cond rfl (fun c36 => ?_) (fun c36 => ?_)
        · try simp only [decide_eq_true_eq, Bool.or_eq_true] at c36
          refine ev_seq (ev_region tabT [] 3800 rfl ?_)
          repeat (first | refine sat_same ?_ | refine sat_impA ?_ | refine sat_needA ?_)
          refine sat_fn _ (At_ok _ _) rfl ?_
          repeat (first | refine sat_same ?_ | refine sat_impA ?_ | refine sat_needA ?_)
          refine sat_done ?_
          refine exS_normal ?_
          refine ev_ret ?_
          refine exS_ret ?_
          exact FinV.ret rfl (SubP.of_eq (by rw [pr_none c1 c3 x c8, if_pos (by rw [hxk] at c36; omega)]; rfl))
        · try simp only [decide_eq_false_iff_not, Bool.or_eq_false_iff] at c36
          refine ev_skip ?_
          refine exS_normal ?_
          refine ev_R tabT [] 3900 ?_
          refine ev_ret ?_
          exact FinV.ret rfl (SubP.of_eq (by rw [pr_none c1 c3 x c8, if_neg (by rw [hxk] at c36; omega)]; rfl))

end Go.Proofs.YtonogeiopicibaaGreatDoor

/- Walks by the evaluator: Usable, and what a usable heap is. -/
namespace Go.Proofs.YtonogeiopicibaaGreatDoor
open Go.RowKit
variable {md me : Bool}

noncomputable def usableS (h : List Ob) (vs : List Vl) : Bool := decide ((problemS h).1 = 0) && vs.all (hasS h)
theorem fstC_zero : ∀ {l : List Int}, fstC l = 0 → ∀ j, l.getD j 0 = 0
  | [], _, j => by simp
  | c :: l, h, j => by
    rw [fstC] at h
    split at h
    · rename_i h0
      match j with
      | 0 => simpa using h0
      | j + 1 => simpa using fstC_zero h j
    · rename_i h0; exact absurd h h0
/-- What the document knows of a heap without a problem. -/
structure Uh (h : List Ob) : Prop where
  lo : 49 ≤ h.length
  hi : h.length ≤ 5000
  code : ∀ i, i < h.length → codeS h i = 0
theorem uh_of {h : List Ob} (hp : (problemS h).1 = 0) : Uh h := by
  unfold problemS at hp
  split at hp
  · exact absurd hp (by decide)
  · rename_i h1
    split at hp
    · exact absurd hp (by decide)
    · rename_i h2
      split at hp
      · rename_i i hi
        rw [List.find?_range_eq_some] at hi
        exact absurd hp (by simpa using hi.1)
      · rename_i hn
        rw [List.find?_range_eq_none] at hn
        exact ⟨by omega, by omega, fun i hi => by simpa using hn i hi⟩
structure Uho (h : List Ob) (o : Ob) (i : Nat) : Prop where
  kind : 0 ≤ o.kind ∧ o.kind < 21
  shape : shapeS o = 0
  sizes : sizesS o = 0
  names : namesS o = 0
  vals : valuesS h o = 0
  links : linksS h o i = true
  keys : keyS h o = 0
  order : orderOkS h o i = true
theorem Uh.lo_at {h : List Ob} (g : Uh h) {i : Nat} (hi : i < 49) : obAt h i = bgO i := by
  have := g.code i (by have := g.lo; omega)
  unfold codeS at this
  rw [if_pos (by omega)] at this
  split at this
  · assumption
  · cases this
theorem Uh.hi_at {h : List Ob} (g : Uh h) {i : Nat} (h1 : 49 ≤ i) (h2 : i < h.length) : Uho h (obAt h i) i := by
  have := g.code i h2
  unfold codeS at this
  rw [if_neg (by omega)] at this
  split at this
  · cases this
  · rename_i hk
    split at this
    · rename_i hf
      split at this
      · rename_i hl
        split at this
        · rename_i hy
          split at this
          · rename_i ho
            have hz := fstC_zero hf
            exact ⟨by omega, hz 0, hz 1, hz 2, hz 3, hl, hy, ho⟩
          · cases this
        · rename_i hy; exact absurd this hy
      · cases this
    · rename_i hf; exact absurd this hf
theorem obAt_nat {h : List Ob} {n : Int} (hn : inH h n) : obAt h n = obAt h ((n.toNat : Nat) : Int) := by rfl
theorem Uh.cls {h : List Ob} (g : Uh h) {n : Int} (hn : inH h n) (hk : (obAt h n).kind = 10) : inH h (obAt h n).cls := by
  by_cases h49 : n.toNat < 49
  · have := g.lo_at h49
    rw [show obAt h n = bgO n.toNat from this] at hk
    exact absurd hk (by show ¬ (9 : Int) = 10; decide)
  · exact isObj_in (vs_of (g.hi_at (by omega) hn.2).vals).cls
theorem Uh.items {h : List Ob} (g : Uh h) {n : Int} (hn : inH h n) {v : Vl} (hv : v ∈ (obAt h n).items) (hk : v.k = 6) : isObj h v.r = true := by
  by_cases h49 : n.toNat < 49
  · rw [show obAt h n = bgO n.toNat from g.lo_at h49] at hv
    exact absurd hv (by show ¬ v ∈ ([] : List Vl); simp)
  · exact (vs_of (g.hi_at (by omega) hn.2).vals).vals v (List.mem_append.2 (.inr hv)) hk
theorem has_obj {h : List Ob} {v : Vl} (hh : hasS h v = true) (hk : v.k = 6) : isObj h v.r = true := by
  simp only [hasS, Bool.and_eq_true, Bool.or_eq_true, Bool.not_eq_true', decide_eq_false_iff_not] at hh
  exact hh.2.resolve_left fun hn => hn hk
theorem objS_of {h : List Ob} {v : Vl} (hk : (objS h v).kind ≠ 0) : v.k = 6 ∧ isObj h v.r = true ∧ objS h v = obAt h v.r := by
  unfold objS at hk ⊢
  split at hk
  · rename_i h1
    exact ⟨h1.1, h1.2, if_pos h1⟩
  · exact absurd rfl hk
theorem objS_at {h : List Ob} {v : Vl} (hv : v.k = 6 → isObj h v.r = true) (hk : v.k = 6) : objS h v = obAt h v.r := if_pos ⟨hk, hv hk⟩
theorem objS_no {h : List Ob} {v : Vl} (hk : ¬ v.k = 6) : objS h v = ob0 := if_neg fun hh => hk hh.1

theorem Usable_ok (h : List Ob) (vs : List Vl) (hh : HpIn h) (hin : ∀ v ∈ vs, VlIn v) (hl : vs.length ≤ 2000000) : Fn Tryz.prog 4 [hpD md h, vsD vs] (.v (.bool (usableS h vs))) := by
  refine fn_ev tabT Tryz.func4 rfl rfl rfl rfl rfl rfl ?_
  intro w0 s0 mx
  refine ev_R tabT [] 100 ?_
  refine ev_seq ?_
  refine ev_seq (ev_region tabT [] 200 rfl ?_)
  repeat (first | refine sat_same ?_ | refine sat_impA ?_ | refine sat_needA ?_)
  refine sat_fn _ (Problem_ok _ (by first | assumption | omega | (simp_all; done))) rfl ?_
  repeat (first | refine sat_same ?_ | refine sat_impA ?_ | refine sat_needA ?_)
  refine sat_done ?_
  refine exS_normal ?_
  refine ev_cond rfl (fun c1 => ?_) (fun c1 => ?_)
  · replace c1 : ¬ (problemS h).1 = 0 := by simpa using c1
    refine ev_R tabT [] 300 ?_
    refine ev_ret ?_
    refine exS_ret ?_
    exact FinV.ret rfl (SubP.bool (by rw [usableS, decide_eq_false c1]; rfl))
  · replace c1 : (problemS h).1 = 0 := by simpa using c1
    refine ev_skip ?_
    refine exS_normal ?_
    refine ev_seq ?_
    refine ev_R tabT [] 400 ?_
    refine ev_block ?_
    refine ev_loopK (ι := Al vs (hasS h)) [2, 11, 12] [0] 450 (fun x => [(13, .v (.int .i64 x.k))]) (fun _ => []) (fun x => vs.length - x.k) ⟨0, Nat.zero_le _, fun j x hj => by omega⟩ ?_
    refine ⟨⟨le_t, le_o, rfl, rfl⟩, fun x => ?_⟩
    have hk := x.le
    refine ev_R tabT [] 500 ?_
    refine ev_seq ?_
    refine ev_if (fun c4 => ?_) (fun c4 => ?_)
    · 
      refine ev_skip ?_
      refine exS_normal ?_
      refine ev_seq ?_
      refine ev_block ?_
      refine ev_R tabT [] 600 ?_
      refine ev_seq (ev_region tabT [] 700 rfl ?_)
      repeat (first | refine sat_same ?_ | refine sat_impA ?_ | refine sat_needA ?_)
      refine sat_fn _ (Has_ok _ _ (hin _ (mem_getD c4 vl0))) rfl ?_
      repeat (first | refine sat_same ?_ | refine sat_impA ?_ | refine sat_needA ?_)
      refine sat_done ?_
      refine exS_normal ?_
      refine ev_cond rfl (fun c6 => ?_) (fun c6 => ?_)
      · simp only [Bool.not_eq_true'] at c6
        refine ev_R tabT [] 800 ?_
        refine ev_ret ?_
        refine exBl_ret ?_
        refine exS_ret ?_
        refine exL_ret ?_
        refine exBl_ret ?_
        refine exS_ret ?_
        exact FinV.ret rfl (SubP.bool (by rw [usableS, Al.no (p := hasS h) (e := vl0) c4 c6, Bool.and_false]))
      · simp only [Bool.not_eq_false'] at c6
        refine ev_skip ?_
        refine exBl_normal ?_
        refine exS_normal ?_
        refine ev_Q tabT [] 900 ?_
        exact exL_normal (x.next (e := vl0) c4 c6) ⟨le_t, le_o, rfl, rfl⟩ (by show vs.length - (x.k + 1) < vs.length - x.k; omega)
    · 
      refine ev_exit ?_
      refine exS_exit ?_
      refine exL_exit ?_
      refine exBl_same ?_
      refine exS_normal ?_
      refine ev_R tabT [] 1000 ?_
      refine ev_ret ?_
      exact FinV.ret rfl (SubP.bool (by rw [usableS, decide_eq_true c1, x.yes c4]; rfl))

end Go.Proofs.YtonogeiopicibaaGreatDoor

/- Walks by the evaluator: raising: Is, Matches, Caught, SameStep. -/
namespace Go.Proofs.YtonogeiopicibaaGreatDoor
open Go.RowKit
variable {md me : Bool}

/-- A step: its kind, its value, its code, its text, two more. -/
structure St where
  k : Int
  v : Vl
  c : Int
  s : ByteArray
  w : Vl
  l : List Vl
def stD (s : St) : List D := .v (.int .i64 s.k) :: (vlD s.v ++ (.v (.int .i64 s.c) :: .v (.string s.s) :: (vlD s.w ++ [.sl false 7 s.l vlD vl0])))
def smSt (a b : St) : Bool := ((((decide (a.k = b.k) && decide (a.c = b.c)) && decide (a.s = b.s)) && decide (a.v = b.v)) && decide (a.w = b.w)) && decide (a.l = b.l)
theorem smSt_self (a : St) : smSt a a = true := by simp [smSt]
def boV (b : Bool) : Vl := ⟨1, false, [], false, [], ByteArray.empty, if b then 1 else 0⟩
def raS (c : Int) (m : ByteArray) : St := ⟨1, vl0, c, m, vl0, []⟩
def vlS (v : Vl) : St := ⟨0, v, 0, ByteArray.empty, vl0, []⟩
def excC (h : List Ob) (w : Vl) : Bool := decide ((objS h w).kind = 9) && hasB (obAt h w.r).order 28
def mg1 : ByteArray := ⟨#[99, 97, 116, 99, 104, 32, 110, 101, 101, 100, 115, 32, 97, 110, 32, 101, 120, 99, 101, 112, 116, 105, 111, 110, 32, 99, 108, 97, 115, 115]⟩
def mg2 : ByteArray := ⟨#[99, 97, 116, 99, 104, 32, 42, 32, 110, 101, 101, 100, 115, 32, 110, 111, 32, 103, 114, 111, 117, 112, 32, 99, 108, 97, 115, 115]⟩
/-- The step of a clause that catches. -/
def mtS (h : List Ob) (v : Vl) (b : Bool) : List Vl → St
  | [] => vlS (boV false)
  | w :: l => if excC h w = true then (if (b && hasB (obAt h w.r).order 48) = true then raS 32 mg2 else if isaS h v w.r = true then vlS (boV true) else mtS h v b l) else raS 32 mg1
def wlS (h : List Ob) (w : Vl) : List Vl := if (objS h w).kind = 1 then (objS h w).items else [w]
/-- So much of a list read; what is told of the rest is told of the whole. -/
structure Sf {α β : Type} (F : List α → β) (l : List α) where
  k : Nat
  le : k ≤ l.length
  eq : F (l.drop k) = F l
theorem drop_getD {α : Type} {l : List α} {k : Nat} (h : k < l.length) (e : α) : l.drop k = l.getD k e :: l.drop (k + 1) := by
  rw [List.drop_eq_getElem_cons h, List.getD_eq_getElem?_getD, List.getElem?_eq_getElem h]; rfl
def Sf.next {α β : Type} {F : List α → β} {l : List α} (x : Sf F l) (h1 : x.k < l.length) (h2 : F (l.drop x.k) = F (l.drop (x.k + 1))) : Sf F l := ⟨x.k + 1, h1, h2.symm.trans x.eq⟩
theorem Sf.end {α β : Type} {F : List α → β} {l : List α} (x : Sf F l) (h1 : ¬ x.k < l.length) : F l = F [] := by
  rw [← x.eq, List.drop_of_length_le (by omega)]
theorem excC_in {h : List Ob} {w : Vl} (he : excC h w = true) : inH h w.r := by
  simp only [excC, Bool.and_eq_true, decide_eq_true_eq] at he
  exact isObj_in (objS_of (by rw [he.1]; decide)).2.1
/-- What Matches and Caught ask of a value: its number is an object's, and its class is one. -/
structure Rf (h : List Ob) (v : Vl) : Prop where
  obj : v.k = 6 → isObj h v.r = true
  cls : v.k = 6 → (obAt h v.r).kind = 10 → inH h (obAt h v.r).cls
theorem Rf.isa {h : List Ob} {v : Vl} (hv : Rf h v) (hk : (objS h v).kind = 10) : inH h (objS h v).cls := by
  have h1 := objS_of (h := h) (v := v) (by rw [hk]; decide)
  rw [h1.2.2] at hk ⊢
  exact hv.cls h1.1 hk
theorem isa_eq {h : List Ob} {v : Vl} (hv : Rf h v) (c : Int) : ((decide (v.k = 6) && decide ((obAt h v.r).kind = 10)) && hasB (obAt h (obAt h v.r).cls).order c) = isaS h v c := by
  unfold isaS
  by_cases hk : v.k = 6
  · rw [objS_at hv.obj hk, decide_eq_true hk, Bool.true_and]
  · rw [objS_no hk, decide_eq_false hk]; rfl
theorem exc_eq {h : List Ob} {w : Vl} (hw : w.k = 6 → isObj h w.r = true) : ((decide (w.k = 6) && decide ((obAt h w.r).kind = 9)) && hasB (obAt h w.r).order 28) = excC h w := by
  unfold excC
  by_cases hk : w.k = 6
  · rw [objS_at hw hk, decide_eq_true hk, Bool.true_and]
  · rw [objS_no hk, decide_eq_false hk]; rfl
theorem wlS_eq {h : List Ob} {w : Vl} (hw : w.k = 6 → isObj h w.r = true) (hc : (decide (w.k = 6) && decide ((obAt h w.r).kind = 1)) = true) : wlS h w = (obAt h w.r).items := by
  simp only [Bool.and_eq_true, decide_eq_true_eq] at hc
  unfold wlS
  rw [objS_at hw hc.1, if_pos hc.2]
theorem wlS_ne {h : List Ob} {w : Vl} (hw : w.k = 6 → isObj h w.r = true) (hc : (decide (w.k = 6) && decide ((obAt h w.r).kind = 1)) = false) : wlS h w = [w] := by
  unfold wlS
  by_cases hk : w.k = 6
  · rw [decide_eq_true hk, Bool.true_and] at hc
    rw [objS_at hw hk, if_neg (of_decide_eq_false hc)]
  · rw [objS_no hk, if_neg (by show ¬ (0 : Int) = 1; decide)]

end Go.Proofs.YtonogeiopicibaaGreatDoor

/- Walks by the evaluator: Matches, Caught; the law. -/
namespace Go.Proofs.YtonogeiopicibaaGreatDoor
open Go.RowKit
variable {md me : Bool}

theorem wl_obj {h : List Ob} {w : Vl} (g : Uh h) (hw : w.k = 6 → isObj h w.r = true) {u : Vl} (hu : u ∈ wlS h w) (hk : u.k = 6) : isObj h u.r = true := by
  unfold wlS at hu
  split at hu
  · rename_i h1
    have h2 := objS_of (h := h) (v := w) (by rw [h1]; decide)
    rw [h2.2.2] at hu
    exact g.items (isObj_in h2.2.1) hu hk
  · rw [List.mem_singleton] at hu; subst hu; exact hw hk
theorem wl_len {h : List Ob} {w : Vl} (hh : HpIn h) : (wlS h w).length ≤ 2000000 := by
  unfold wlS
  split
  · rename_i h1
    have h2 := objS_of (h := h) (v := w) (by rw [h1]; decide)
    rw [h2.2.2]
    exact (hh.at w.r).il
  · show 1 ≤ 2000000; omega
section
variable {h : List Ob} {v : Vl} {b : Bool} {l : List Vl} {k : Nat}
theorem mt_bad (hk : k < l.length) (h7 : ¬ excC h (l.getD k vl0) = true) : mtS h v b (l.drop k) = raS 32 mg1 := by rw [drop_getD hk vl0, mtS, if_neg h7]
theorem mt_grp (hk : k < l.length) (h7 : excC h (l.getD k vl0) = true) (h9 : (b && hasB (obAt h (l.getD k vl0).r).order 48) = true) : mtS h v b (l.drop k) = raS 32 mg2 := by rw [drop_getD hk vl0, mtS, if_pos h7, if_pos h9]
theorem mt_yes (hk : k < l.length) (h7 : excC h (l.getD k vl0) = true) (h9 : ¬ (b && hasB (obAt h (l.getD k vl0).r).order 48) = true) (h11 : isaS h v (l.getD k vl0).r = true) : mtS h v b (l.drop k) = vlS (boV true) := by rw [drop_getD hk vl0, mtS, if_pos h7, if_neg h9, if_pos h11]
theorem mt_nxt (hk : k < l.length) (h7 : excC h (l.getD k vl0) = true) (h9 : ¬ (b && hasB (obAt h (l.getD k vl0).r).order 48) = true) (h11 : ¬ isaS h v (l.getD k vl0).r = true) : mtS h v b (l.drop k) = mtS h v b (l.drop (k + 1)) := by rw [drop_getD hk vl0, mtS, if_pos h7, if_neg h9, if_neg h11]
end

end Go.Proofs.YtonogeiopicibaaGreatDoor

/- Walks by the evaluator: heap.Start, SameHeap, Text, Ref, ClassOf. -/
namespace Go.Proofs.YtonogeiopicibaaGreatDoor
open Go.RowKit
variable {md me : Bool}

theorem par_rest {k : Nat} (h : k < 49) (h1 : ¬ (k : Int) = 29) (h2 : ¬ (k : Int) = 30) (h3 : ¬ (k : Int) = 31) (h4 : ¬ (k : Int) = 35) (h5 : ¬ (k : Int) = 38) (h6 : ¬ (k : Int) = 39) (h7 : ¬ (k : Int) = 41) (h8 : ¬ (k : Int) = 43) : ixB k = if 31 < (k : Int) then 31 else 0 := by
  have := List.all_eq_true.1 (show (List.range 49).all (fun k => decide ((k : Int) = 29 ∨ (k : Int) = 30 ∨ (k : Int) = 31 ∨ (k : Int) = 35 ∨ (k : Int) = 38 ∨ (k : Int) = 39 ∨ (k : Int) = 41 ∨ (k : Int) = 43 ∨ ixB k = if 31 < (k : Int) then 31 else 0)) = true by decide +kernel) k (List.mem_range.2 h)
  have := of_decide_eq_true this
  simp only [h1, h2, h3, h4, h5, h6, h7, h8, false_or] at this
  exact this
theorem par_at {k n : Nat} (hk : (k : Int) = (n : Int)) : ixB k = ixB n := by rw [show k = n by omega]
theorem dv_pos {k : Nat} (h : k < 49) : dvB k = decide (0 < (k : Int)) := by
  have := List.all_eq_true.1 (show (List.range 49).all (fun k => decide (dvB k = decide (0 < (k : Int)))) = true by decide +kernel) k (List.mem_range.2 h)
  exact of_decide_eq_true this
theorem nmL_len : nmL.length = 49 := by decide +kernel
theorem bgRow2 {k : Nat} (h : k < 49) (hd : dvB k = true) {K : Nat} {rows : List (List D)} (hr : rows = [[.v (.int .i64 k)]] ++ (odB (ixB k).toNat).map iD) : SubPs [.v (.int .i64 9), .v (.string (nmB k)), .v (.int .i64 0), .slr false 1 [[.v (.int .i64 (ixB k))]], .own K 1 rows, .v (.slice none 0 0), .v (.slice none 0 0), .v (.slice none 0 0), .v (.int .i64 0), .v (.int .i64 0)] (obD (bgO k)) :=
  ⟨SubP.refl _, SubP.refl _, SubP.refl _, SubP.slrSl (by show _ = (if dvB k then [ixB k] else []).map iD; rw [if_pos hd]; rfl), SubP.ownSl (by show _ = (odB k).map iD; rw [(ixK h hd).2.2.2, hr]; rfl), SubP.nilSl rfl, SubP.nilSl rfl, SubP.nilSl rfl, SubP.refl _, SubP.refl _, trivial⟩

def txV (s : ByteArray) : Vl := ⟨4, false, [], false, [], s, 0⟩
def rfV (r : Int) : Vl := ⟨6, false, [], false, [], ByteArray.empty, r⟩
noncomputable def shS (a b : List Ob) : Bool := decide (a.length = b.length) && (List.range a.length).all fun j => decide (a.getD j ob0 = b.getD j ob0)
theorem shS_self (a : List Ob) : shS a a = true := by simp [shS]

theorem heapRef_ok (r : Int) : Fn Tryz.prog 23 [.v (.int .i64 r)] (.agg (vlD (rfV r))) := by
  refine fn_ev tabT Tryz.func23 rfl rfl rfl rfl rfl rfl ?_
  intro w0 s0 mx
  refine ev_R tabT [] 100 ?_
  refine ev_R tabT [] 200 ?_
  refine ev_ret ?_
  exact FinV.ret rfl (SubP.agg (by repeat (first | exact trivial | exact SubP.refl _ | exact SubP.nilSl rfl | refine ⟨?_, ?_⟩)))

theorem O_ok (r : Int) : Fn Tryz.prog 27 [.v (.int .i64 r)] (.agg (vlD (rfV r))) := by
  refine fn_ev tabT Tryz.func27 rfl rfl rfl rfl rfl rfl ?_
  intro w0 s0 mx
  refine ev_R tabT [] 100 ?_
  refine ev_R tabT [] 200 ?_
  refine ev_ret ?_
  exact FinV.ret rfl (SubP.agg (by repeat (first | exact trivial | exact SubP.refl _ | exact SubP.nilSl rfl | refine ⟨?_, ?_⟩)))

end Go.Proofs.YtonogeiopicibaaGreatDoor

/- Walks by the evaluator: the class of a value. -/
namespace Go.Proofs.YtonogeiopicibaaGreatDoor
open Go.RowKit
variable {md me : Bool}

def kcL : List Int := [2, 3, 4, 5, 6, 7, 0, 15, 27, 2]
def ocL : List Int := [0, 8, 9, 10, 11, 12, 13, 14, 16, 1, 0, 17, 18, 19, 20, 21, 22, 23, 24, 25, 26]
/-- The class of an object; of a value. -/
def ocS (o : Ob) : Int := if o.kind = 10 then o.cls else ocL.getD o.kind.toNat 0
def clA (h : List Ob) (v : Vl) : Int := if v.k = 6 then ocS (obAt h v.r) else kcL.getD v.k.toNat 0
theorem voks_k {v : Vl} (h : vokS v = true) : 0 ≤ v.k ∧ v.k < 9 := by
  unfold vokS at h
  repeat' split at h
  all_goals first | omega | cases h
/-- What ClassOf asks of a value. -/
structure Cf (h : List Ob) (v : Vl) : Prop where
  k : 0 ≤ v.k ∧ v.k < 9
  obj : v.k = 6 → isObj h v.r = true
  kind : v.k = 6 → 0 < (obAt h v.r).kind ∧ (obAt h v.r).kind < 21
  cls : v.k = 6 → (obAt h v.r).kind = 10 → inH h (obAt h v.r).cls
theorem Uh.kind {h : List Ob} (g : Uh h) {n : Int} (hn : isObj h n = true) : 0 < (obAt h n).kind ∧ (obAt h n).kind < 21 := by
  have hi := isObj_in hn
  by_cases h49 : n.toNat < 49
  · rw [show obAt h n = bgO n.toNat from g.lo_at h49]
    exact ⟨by show (0 : Int) < 9; decide, by show (9 : Int) < 21; decide⟩
  · have h1 := (g.hi_at (by omega) hi.2).kind
    have h2 : ¬ (obAt h n).kind = 0 := by
      intro h0
      simp only [isObj, Bool.and_eq_true] at hn
      have := hn.2
      rw [show (h.getD n.toNat ob0).kind = 0 from h0] at this
      exact absurd this (by decide)
    exact ⟨by have := h1.1; show 0 < (obAt h n).kind; have h3 : (obAt h ((n.toNat : Nat) : Int)).kind = (obAt h n).kind := rfl; omega, h1.2⟩
theorem cf_of {h : List Ob} {v : Vl} (g : Uh h) (hh : hasS h v = true) : Cf h v := by
  have hv : vokS v = true := by
    simp only [hasS, Bool.and_eq_true] at hh
    exact hh.1
  exact ⟨voks_k hv, has_obj hh, fun hk => g.kind (has_obj hh hk), fun hk => g.cls (isObj_in (has_obj hh hk))⟩
theorem oc_ge {k : Int} (h : 15 ≤ k) (h2 : k < 21) : ocL.getD k.toNat 0 = 21 + k - 15 := by
  obtain ⟨n, rfl⟩ : ∃ n : Nat, k = (n : Int) := ⟨k.toNat, by omega⟩
  have := List.all_eq_true.1 (show (List.range 21).all (fun n => decide (n < 15 ∨ ocL.getD n 0 = 21 + (n : Int) - 15)) = true by decide +kernel) n (List.mem_range.2 (by omega))
  have := (of_decide_eq_true this).resolve_left (by omega)
  exact this
theorem oc_lt {k : Int} (h : 1 ≤ k) (h2 : k < 8) : ocL.getD k.toNat 0 = 8 + k - 1 := by
  obtain ⟨n, rfl⟩ : ∃ n : Nat, k = (n : Int) := ⟨k.toNat, by omega⟩
  have := List.all_eq_true.1 (show (List.range 8).all (fun n => decide (n < 1 ∨ ocL.getD n 0 = 8 + (n : Int) - 1)) = true by decide +kernel) n (List.mem_range.2 (by omega))
  have := (of_decide_eq_true this).resolve_left (by omega)
  exact this
theorem ocS_in {h : List Ob} {o : Ob} (g : Uh h) (hk : 0 < o.kind ∧ o.kind < 21) (hc : o.kind = 10 → inH h o.cls) : inH h (ocS o) := by
  unfold ocS
  split
  · rename_i h1; exact hc h1
  · have h3 := List.all_eq_true.1 (show (List.range 21).all (fun n => decide (0 ≤ ocL.getD n 0 ∧ ocL.getD n 0 < 49)) = true by decide +kernel) o.kind.toNat (List.mem_range.2 (by omega))
    have h4 := of_decide_eq_true h3
    have := g.lo
    exact ⟨h4.1, by omega⟩
theorem clA_in {h : List Ob} {v : Vl} (g : Uh h) (c : Cf h v) : inH h (clA h v) := by
  unfold clA
  split
  · rename_i h1; exact ocS_in g (c.kind h1) (c.cls h1)
  · have h3 := List.all_eq_true.1 (show (List.range 9).all (fun n => decide (0 ≤ kcL.getD n 0 ∧ kcL.getD n 0 < 49)) = true by decide +kernel) v.k.toNat (List.mem_range.2 (by have := c.k; omega))
    have h4 := of_decide_eq_true h3
    have := g.lo
    exact ⟨h4.1, by omega⟩

theorem kindClasses_ok  : Fn Tryz.prog 53 [] (isD kcL) := by
  refine fn_ev tabT Tryz.func53 rfl rfl rfl rfl rfl rfl ?_
  intro w0 s0 mx
  refine ev_R tabT [] 100 ?_
  refine ev_R tabT [] 200 ?_
  refine ev_ret ?_
  exact FinV.ret rfl (SubP.slrSl rfl)

theorem objectClasses_ok  : Fn Tryz.prog 54 [] (isD ocL) := by
  refine fn_ev tabT Tryz.func54 rfl rfl rfl rfl rfl rfl ?_
  intro w0 s0 mx
  refine ev_R tabT [] 100 ?_
  refine ev_R tabT [] 200 ?_
  refine ev_ret ?_
  exact FinV.ret rfl (SubP.slrSl rfl)

theorem heapClassOf_ok (h : List Ob) (v : Vl) (c : Cf h v) : Fn Tryz.prog 31 [hpD md h, .agg (vlD v)] (.v (.int .i64 (clA h v))) := by
  refine fn_ev tabT Tryz.func31 rfl rfl rfl rfl rfl rfl ?_
  intro w0 s0 mx
  refine ev_R tabT [] 100 ?_
  refine ev_seq ?_
  refine ev_R tabT [] 200 ?_
  refine ev_cond rfl (fun c1 => ?_) (fun c1 => ?_)
  · replace c1 : ¬ v.k = 6 := by have h1 := c1; simp only [Bool.not_eq_true', decide_eq_false_iff_not] at h1; exact h1
    refine ev_seq (ev_drawn tabT [] [[], [], [1], [0, 1, 2], [0, 1, 2, 3], [0, 1, 2, 3, 4]] 300 mixT (by kernel_rfl) rfl ?_)
    repeat (first | refine sat_same ?_ | refine sat_impA ?_ | refine sat_need (by exact ⟨c.k.1, by show v.k.toNat < 10; have := c.k; omega⟩) ?_)
    refine sat_fn _ (kindClasses_ok) rfl ?_
    repeat (first | refine sat_same ?_ | refine sat_impA ?_ | refine sat_need (by exact ⟨c.k.1, by show v.k.toNat < 10; have := c.k; omega⟩) ?_)
    refine sat_done ?_
    refine exS_normal ?_
    refine ev_ret ?_
    refine exS_ret ?_
    exact FinV.ret rfl (SubP.int (by rw [clA, if_neg c1]))
  · replace c1 : v.k = 6 := by have h1 := c1; simp only [Bool.not_eq_false', decide_eq_true_eq] at h1; exact h1
    refine ev_skip ?_
    refine exS_normal ?_
    refine ev_seq (ev_region tabT [] 400 rfl ?_)
    repeat (first | refine sat_same ?_ | refine sat_impA ?_ | refine sat_need (by exact isObj_in (c.obj c1)) ?_)
    refine sat_done ?_
    refine exS_normal ?_
    refine ev_seq ?_
    refine ev_R tabT [] 500 ?_
    refine ev_cond rfl (fun c4 => ?_) (fun c4 => ?_)
    · first | replace c4 := of_decide_eq_true c4 | replace c4 := of_decide_eq_false c4
      refine ev_R tabT [] 600 ?_
      refine ev_ret ?_
      refine exS_ret ?_
      exact FinV.ret rfl (SubP.int (by rw [clA, if_pos c1, ocS, if_pos c4]))
    · first | replace c4 := of_decide_eq_true c4 | replace c4 := of_decide_eq_false c4
      refine ev_skip ?_
      refine exS_normal ?_
      refine ev_seq (ev_drawn tabT [] [[], [], [1], [0, 1, 2], [0, 1, 2, 3], [0, 1, 2, 3, 4]] 700 mixT (by kernel_rfl) rfl ?_)
      repeat (first | refine sat_same ?_ | refine sat_impA ?_ | refine sat_need (by exact ⟨Int.le_of_lt (c.kind c1).1, by show (obAt h v.r).kind.toNat < 21; have h1 : 0 < (obAt h v.r).kind ∧ (obAt h v.r).kind < 21 := c.kind c1; omega⟩) ?_)
      refine sat_fn _ (objectClasses_ok) rfl ?_
      repeat (first | refine sat_same ?_ | refine sat_impA ?_ | refine sat_need (by exact ⟨Int.le_of_lt (c.kind c1).1, by show (obAt h v.r).kind.toNat < 21; have h1 : 0 < (obAt h v.r).kind ∧ (obAt h v.r).kind < 21 := c.kind c1; omega⟩) ?_)
      refine sat_done ?_
      refine exS_normal ?_
      refine ev_ret ?_
      exact FinV.ret rfl (SubP.int (by rw [clA, if_pos c1, ocS, if_neg c4]))

theorem classOfObject_ok (o : Ob) (hk : 0 < o.kind ∧ o.kind < 21) : Fn Tryz.prog 57 [.agg (obD o)] (.v (.int .i64 (ocS o))) := by
  refine fn_ev tabT Tryz.func57 rfl rfl rfl rfl rfl rfl ?_
  intro w0 s0 mx
  refine ev_seq (ev_region tabT [] 100 rfl ?_)
  repeat (first | refine sat_same ?_ | refine sat_impA ?_ | refine sat_need (by first | exact ini (by omega) (by omega) | omega) ?_)
  refine sat_done ?_
  refine exS_normal ?_
  refine ev_seq ?_
  refine ev_seq (ev_region tabT [] 200 rfl ?_)
  repeat (first | refine sat_same ?_ | refine sat_impA ?_ | refine sat_need (by first | exact ini (by omega) (by omega) | omega) ?_)
  refine sat_done ?_
  refine exS_normal ?_
  refine ev_block ?_
  refine ev_seq (ev_region tabT [] 300 rfl ?_)
  repeat (first | refine sat_same ?_ | refine sat_impA ?_ | refine sat_need (by first | exact ini (by omega) (by omega) | omega) ?_)
  refine sat_done ?_
  refine exS_normal ?_
  refine ev_cond rfl (fun c2 => ?_) (fun c2 => ?_)
  · first | replace c2 := of_decide_eq_true c2 | replace c2 := of_decide_eq_false c2
    refine ev_seq (ev_region tabT [] 400 rfl ?_)
    repeat (first | refine sat_same ?_ | refine sat_impA ?_ | refine sat_need (by first | exact ini (by omega) (by omega) | omega) ?_)
    refine sat_done ?_
    refine exS_normal ?_
    refine ev_ret ?_
    refine exBl_ret ?_
    refine exS_ret ?_
    exact FinV.ret rfl (SubP.int (by rw [ocS, if_pos c2]))
  · first | replace c2 := of_decide_eq_true c2 | replace c2 := of_decide_eq_false c2
    refine ev_seq (ev_region tabT [] 500 rfl ?_)
    repeat (first | refine sat_same ?_ | refine sat_impA ?_ | refine sat_need (by first | exact ini (by omega) (by omega) | omega) ?_)
    refine sat_done ?_
    refine exS_normal ?_
    refine ev_cond rfl (fun c4 => ?_) (fun c4 => ?_)
    · first | replace c4 := of_decide_eq_true c4 | replace c4 := of_decide_eq_false c4
      refine ev_seq (ev_region tabT [] 600 rfl ?_)
      repeat (first | refine sat_same ?_ | refine sat_impA ?_ | refine sat_need (by first | exact ini (by omega) (by omega) | omega) ?_)
      refine sat_done ?_
      refine exS_normal ?_
      refine ev_ret ?_
      refine exBl_ret ?_
      refine exS_ret ?_
      exact FinV.ret rfl (SubP.int (by rw [ocS, if_neg c2, c4]; rfl))
    · first | replace c4 := of_decide_eq_true c4 | replace c4 := of_decide_eq_false c4
      refine ev_seq (ev_region tabT [] 700 rfl ?_)
      repeat (first | refine sat_same ?_ | refine sat_impA ?_ | refine sat_need (by first | exact ini (by omega) (by omega) | omega) ?_)
      refine sat_done ?_
      refine exS_normal ?_
      refine ev_cond rfl (fun c6 => ?_) (fun c6 => ?_)
      · first | replace c6 := of_decide_eq_true c6 | replace c6 := of_decide_eq_false c6
        refine ev_seq (ev_region tabT [] 800 rfl ?_)
        repeat (first | refine sat_same ?_ | refine sat_impA ?_ | refine sat_need (by first | exact ini (by omega) (by omega) | omega) ?_)
        refine sat_done ?_
        refine exS_normal ?_
        refine ev_ret ?_
        refine exBl_ret ?_
        refine exS_ret ?_
        exact FinV.ret rfl (SubP.int (by rw [ocS, if_neg c2, c6]; rfl))
      · first | replace c6 := of_decide_eq_true c6 | replace c6 := of_decide_eq_false c6
        refine ev_seq (ev_region tabT [] 900 rfl ?_)
        repeat (first | refine sat_same ?_ | refine sat_impA ?_ | refine sat_need (by first | exact ini (by omega) (by omega) | omega) ?_)
        refine sat_done ?_
        refine exS_normal ?_
        refine ev_cond rfl (fun c8 => ?_) (fun c8 => ?_)
        · first | replace c8 := of_decide_eq_true c8 | replace c8 := of_decide_eq_false c8
          refine ev_seq (ev_region tabT [] 1000 rfl ?_)
          repeat (first | refine sat_same ?_ | refine sat_impA ?_ | refine sat_need (by first | exact ini (by omega) (by omega) | omega) ?_)
          refine sat_done ?_
          refine exS_normal ?_
          refine ev_ret ?_
          refine exBl_ret ?_
          refine exS_ret ?_
          exact FinV.ret rfl (SubP.int (by rw [ocS, if_neg c2, c8]; rfl))
        · first | replace c8 := of_decide_eq_true c8 | replace c8 := of_decide_eq_false c8
          refine ev_seq (ev_region tabT [] 1100 rfl ?_)
          repeat (first | refine sat_same ?_ | refine sat_impA ?_ | refine sat_need (by first | exact ini (by omega) (by omega) | omega) ?_)
          refine sat_done ?_
          refine exS_normal ?_
          refine ev_cond rfl (fun c10 => ?_) (fun c10 => ?_)
          · first | replace c10 := of_decide_eq_true c10 | replace c10 := of_decide_eq_false c10
            refine ev_seq (ev_region tabT [] 1200 rfl ?_)
            repeat (first | refine sat_same ?_ | refine sat_impA ?_ | refine sat_need (by first | exact ini (by omega) (by omega) | omega) ?_)
            refine sat_done ?_
            refine exS_normal ?_
            refine ev_ret ?_
            refine exBl_ret ?_
            refine exS_ret ?_
            exact FinV.ret rfl (SubP.int (by rw [ocS, if_neg c2, c10]; rfl))
          · first | replace c10 := of_decide_eq_true c10 | replace c10 := of_decide_eq_false c10
            refine ev_seq (ev_region tabT [] 1300 rfl ?_)
            repeat (first | refine sat_same ?_ | refine sat_impA ?_ | refine sat_need (by first | exact ini (by omega) (by omega) | omega) ?_)
            refine sat_done ?_
            refine exS_normal ?_
            refine ev_cond rfl (fun c12 => ?_) (fun c12 => ?_)
            · first | replace c12 := of_decide_eq_true c12 | replace c12 := of_decide_eq_false c12
              refine ev_seq (ev_region tabT [] 1400 rfl ?_)
              repeat (first | refine sat_same ?_ | refine sat_impA ?_ | refine sat_need (by first | exact ini (by omega) (by omega) | omega) ?_)
              refine sat_done ?_
              refine exS_normal ?_
              refine ev_ret ?_
              refine exBl_ret ?_
              refine exS_ret ?_
              exact FinV.ret rfl (SubP.int (by rw [ocS, if_neg c2, c12]; rfl))
            · first | replace c12 := of_decide_eq_true c12 | replace c12 := of_decide_eq_false c12
              refine ev_seq (ev_region tabT [] 1500 rfl ?_)
              repeat (first | refine sat_same ?_ | refine sat_impA ?_ | refine sat_need (by first | exact ini (by omega) (by omega) | omega) ?_)
              refine sat_done ?_
              refine exS_normal ?_
              refine ev_cond rfl (fun c14 => ?_) (fun c14 => ?_)
              · first | replace c14 := of_decide_eq_true c14 | replace c14 := of_decide_eq_false c14
                refine ev_seq (ev_region tabT [] 1600 rfl ?_)
                repeat (first | refine sat_same ?_ | refine sat_impA ?_ | refine sat_need (by first | exact ini (by omega) (by omega) | omega) ?_)
                refine sat_done ?_
                refine exS_normal ?_
                refine ev_ret ?_
                refine exBl_ret ?_
                refine exS_ret ?_
                exact FinV.ret rfl (SubP.int (by rw [ocS, if_neg c2, c14]; rfl))
              · first | replace c14 := of_decide_eq_true c14 | replace c14 := of_decide_eq_false c14
                refine ev_skip ?_
                refine exBl_normal ?_
                refine exS_normal ?_
                refine ev_seq ?_
                refine ev_seq (ev_region tabT [] 1700 rfl ?_)
                repeat (first | refine sat_same ?_ | refine sat_impA ?_ | refine sat_need (by first | exact ini (by omega) (by omega) | omega) ?_)
                refine sat_done ?_
                refine exS_normal ?_
                refine ev_cond rfl (fun c16 => ?_) (fun c16 => ?_)
                · first | replace c16 := of_decide_eq_true c16 | replace c16 := of_decide_eq_false c16
                  refine ev_seq (ev_region tabT [] 1800 rfl ?_)
                  repeat (first | refine sat_same ?_ | refine sat_impA ?_ | refine sat_need (by first | exact ini (by omega) (by omega) | omega) ?_)
                  refine sat_done ?_
                  refine exS_normal ?_
                  refine ev_ret ?_
                  refine exS_ret ?_
                  exact FinV.ret rfl (SubP.int (by rw [ocS, if_neg c2, oc_ge (by omega) hk.2]))
                · first | replace c16 := of_decide_eq_true c16 | replace c16 := of_decide_eq_false c16
                  refine ev_skip ?_
                  refine exS_normal ?_
                  refine ev_seq (ev_region tabT [] 1900 rfl ?_)
                  repeat (first | refine sat_same ?_ | refine sat_impA ?_ | refine sat_need (by first | exact ini (by omega) (by omega) | omega) ?_)
                  refine sat_done ?_
                  refine exS_normal ?_
                  refine ev_ret ?_
                  exact FinV.ret rfl (SubP.int (by rw [ocS, if_neg c2, oc_lt (by omega) (by omega)]))

theorem ClassOf_ok (h : List Ob) (v : Vl) (c : Cf h v) : Fn Tryz.prog 34 [hpD md h, .agg (vlD v)] (.v (.int .i64 (clA h v))) := by
  refine fn_ev tabT Tryz.func34 rfl rfl rfl rfl rfl rfl ?_
  intro w0 s0 mx
  refine ev_R tabT [] 100 ?_
  refine ev_seq ?_
  refine ev_R tabT [] 200 ?_
  refine ev_block ?_
  refine ev_R tabT [] 300 ?_
  refine ev_cond rfl (fun c2 => ?_) (fun c2 => ?_)
  · first | replace c2 := of_decide_eq_true c2 | replace c2 := of_decide_eq_false c2
    refine ev_R tabT [] 400 ?_
    refine ev_ret ?_
    refine exBl_ret ?_
    refine exS_ret ?_
    exact FinV.ret rfl (SubP.int (by rw [clA, if_neg (by omega), c2]; rfl))
  · first | replace c2 := of_decide_eq_true c2 | replace c2 := of_decide_eq_false c2
    refine ev_R tabT [] 500 ?_
    refine ev_cond rfl (fun c4 => ?_) (fun c4 => ?_)
    · first | replace c4 := of_decide_eq_true c4 | replace c4 := of_decide_eq_false c4
      refine ev_R tabT [] 600 ?_
      refine ev_ret ?_
      refine exBl_ret ?_
      refine exS_ret ?_
      exact FinV.ret rfl (SubP.int (by rw [clA, if_neg (by omega), c4]; rfl))
    · first | replace c4 := of_decide_eq_true c4 | replace c4 := of_decide_eq_false c4
      refine ev_R tabT [] 700 ?_
      refine ev_cond rfl (fun c6 => ?_) (fun c6 => ?_)
      · first | replace c6 := of_decide_eq_true c6 | replace c6 := of_decide_eq_false c6
        refine ev_R tabT [] 800 ?_
        refine ev_ret ?_
        refine exBl_ret ?_
        refine exS_ret ?_
        exact FinV.ret rfl (SubP.int (by rw [clA, if_neg (by omega), c6]; rfl))
      · first | replace c6 := of_decide_eq_true c6 | replace c6 := of_decide_eq_false c6
        refine ev_R tabT [] 900 ?_
        refine ev_cond rfl (fun c8 => ?_) (fun c8 => ?_)
        · first | replace c8 := of_decide_eq_true c8 | replace c8 := of_decide_eq_false c8
          refine ev_R tabT [] 1000 ?_
          refine ev_ret ?_
          refine exBl_ret ?_
          refine exS_ret ?_
          exact FinV.ret rfl (SubP.int (by rw [clA, if_neg (by omega), c8]; rfl))
        · first | replace c8 := of_decide_eq_true c8 | replace c8 := of_decide_eq_false c8
          refine ev_R tabT [] 1100 ?_
          refine ev_cond rfl (fun c10 => ?_) (fun c10 => ?_)
          · first | replace c10 := of_decide_eq_true c10 | replace c10 := of_decide_eq_false c10
            refine ev_R tabT [] 1200 ?_
            refine ev_ret ?_
            refine exBl_ret ?_
            refine exS_ret ?_
            exact FinV.ret rfl (SubP.int (by rw [clA, if_neg (by omega), c10]; rfl))
          · first | replace c10 := of_decide_eq_true c10 | replace c10 := of_decide_eq_false c10
            refine ev_R tabT [] 1300 ?_
            refine ev_cond rfl (fun c12 => ?_) (fun c12 => ?_)
            · first | replace c12 := of_decide_eq_true c12 | replace c12 := of_decide_eq_false c12
              refine ev_R tabT [] 1400 ?_
              refine ev_ret ?_
              refine exBl_ret ?_
              refine exS_ret ?_
              exact FinV.ret rfl (SubP.int (by rw [clA, if_neg (by omega), c12]; rfl))
            · first | replace c12 := of_decide_eq_true c12 | replace c12 := of_decide_eq_false c12
              refine ev_R tabT [] 1500 ?_
              refine ev_cond rfl (fun c14 => ?_) (fun c14 => ?_)
              · first | replace c14 := of_decide_eq_true c14 | replace c14 := of_decide_eq_false c14
                refine ev_R tabT [] 1600 ?_
                refine ev_ret ?_
                refine exBl_ret ?_
                refine exS_ret ?_
                exact FinV.ret rfl (SubP.int (by rw [clA, if_neg (by omega), c14]; rfl))
              · first | replace c14 := of_decide_eq_true c14 | replace c14 := of_decide_eq_false c14
                refine ev_R tabT [] 1700 ?_
                refine ev_cond rfl (fun c16 => ?_) (fun c16 => ?_)
                · first | replace c16 := of_decide_eq_true c16 | replace c16 := of_decide_eq_false c16
                  refine ev_seq (ev_region tabT [] 1800 rfl ?_)
                  repeat (first | refine sat_same ?_ | refine sat_impA ?_ | refine sat_need (by exact isObj_in (c.obj c16)) ?_)
                  refine sat_fn _ (classOfObject_ok _ (c.kind c16)) rfl ?_
                  repeat (first | refine sat_same ?_ | refine sat_impA ?_ | refine sat_need (by exact isObj_in (c.obj c16)) ?_)
                  refine sat_done ?_
                  refine exS_normal ?_
                  refine ev_ret ?_
                  refine exBl_ret ?_
                  refine exS_ret ?_
                  exact FinV.ret rfl (SubP.int (by rw [clA, if_pos c16]))
                · first | replace c16 := of_decide_eq_true c16 | replace c16 := of_decide_eq_false c16
                  refine ev_skip ?_
                  refine exBl_normal ?_
                  refine exS_normal ?_
                  refine ev_R tabT [] 1900 ?_
                  refine ev_ret ?_
                  exact FinV.ret rfl (SubP.int (by rw [clA, if_neg c16, show v.k = 0 by have := c.k; omega]; rfl))

end Go.Proofs.YtonogeiopicibaaGreatDoor

/- Walks by the evaluator: heap.IsName. -/
namespace Go.Proofs.YtonogeiopicibaaGreatDoor
open Go.RowKit
variable {md me : Bool}

/-- What isName tells of a byte. -/
def icP (b : UInt8) : Bool := !((((decide ((b.toNat : Int) < 97) || decide (122 < (b.toNat : Int))) && (decide ((b.toNat : Int) < 65) || decide (90 < (b.toNat : Int)))) && (decide ((b.toNat : Int) < 48) || decide (57 < (b.toNat : Int)))) && !decide ((b.toNat : Int) = 95))
def isnF (s : ByteArray) : Bool := (decide (s = ⟨#[]⟩) || decide (24 < (s.size : Int))) || (decide (48 ≤ (bAt s 0 : Int)) && decide ((bAt s 0 : Int) ≤ 57))
def isnS (s : ByteArray) : Bool := !isnF s && s.data.toList.all icP
theorem sz_pos {s : ByteArray} (h : ¬ s = ⟨#[]⟩) : 0 < s.size := by
  rcases Nat.eq_zero_or_pos s.size with h0 | h0
  · obtain ⟨d⟩ := s
    have : d = #[] := Array.eq_empty_of_size_eq_zero h0
    subst this; exact absurd rfl h
  · exact h0
theorem dl_len (s : ByteArray) : s.data.toList.length = s.size := by first | (simp; done) | (simp; rfl)

end Go.Proofs.YtonogeiopicibaaGreatDoor

/- Walks by the evaluator: heap.IsName is NameOk. -/
namespace Go.Proofs.YtonogeiopicibaaGreatDoor
open Go.RowKit
variable {md me : Bool}

theorem bAt_list {s : ByteArray} {i : Nat} (h : i < s.data.toList.length) : bAt s i = s.data.toList[i].toNat := by
  have h1 : i < s.size := by rw [← dl_len]; exact h
  unfold bAt
  rw [getElem?_pos s i h1]
  rfl
theorem all_bytes (s : ByteArray) : s.data.toList.all icP = true ↔ ∀ i, i < s.size → icP (UInt8.ofNat (bAt s i)) = true := by
  rw [List.all_eq_true]
  constructor
  · intro h i hi
    have hi' : i < s.data.toList.length := by rw [dl_len]; exact hi
    rw [bAt_list hi', UInt8.ofNat_toNat]
    exact h _ (List.getElem_mem hi')
  · intro h b hb
    obtain ⟨i, hi, rfl⟩ := List.mem_iff_getElem.1 hb
    have := h i (by rw [← dl_len]; exact hi)
    rwa [bAt_list hi, UInt8.ofNat_toNat] at this
theorem bAt_lt (s : ByteArray) (i : Nat) : bAt s i < 256 := by
  unfold bAt
  split
  · exact UInt8.toNat_lt _
  · decide
theorem icP_iff {n : Nat} (h : n < 256) : icP (UInt8.ofNat n) = true ↔ ((97 ≤ n ∧ n ≤ 122) ∨ (65 ≤ n ∧ n ≤ 90) ∨ (48 ≤ n ∧ n ≤ 57) ∨ n = 95) := by
  have e : (UInt8.ofNat n).toNat = n := by rw [UInt8.toNat_ofNat']; exact Nat.mod_eq_of_lt h
  unfold icP
  rw [e]
  simp only [Bool.not_eq_true', Bool.and_eq_false_iff, Bool.or_eq_false_iff, decide_eq_false_iff_not, Bool.not_eq_false', decide_eq_true_eq]
  omega
theorem nmP_iff (s : ByteArray) (i : Nat) : nmP s i = true ↔ ((bAt s i = 95 ∨ (97 ≤ bAt s i ∧ bAt s i ≤ 122) ∨ (65 ≤ bAt s i ∧ bAt s i ≤ 90)) ∨ (i ≠ 0 ∧ 48 ≤ bAt s i ∧ bAt s i ≤ 57)) := by
  unfold nmP lttI
  simp only [Bool.not_eq_true', Bool.and_eq_false_iff, Bool.or_eq_false_iff, decide_eq_false_iff_not, Bool.not_eq_false', decide_eq_true_eq, Bool.or_eq_true, Bool.and_eq_true]
  omega
theorem isn_eq (s : ByteArray) : isnS s = nameOkS s := by
  have hz : s = ⟨#[]⟩ ↔ s.size < 1 := ⟨fun h => by rw [h]; decide, fun h => Classical.byContradiction fun hn => by have := sz_pos hn; omega⟩
  rw [Bool.eq_iff_iff]
  unfold isnS isnF nameOkS
  rw [Bool.and_eq_true, all_bytes]
  simp only [Bool.and_eq_true, Bool.not_eq_true', Bool.or_eq_false_iff, Bool.and_eq_false_iff, decide_eq_false_iff_not, List.all_eq_true, List.mem_range, hz]
  constructor
  · rintro ⟨⟨⟨h1, h2⟩, h3⟩, h4⟩
    refine ⟨⟨by omega, h2⟩, fun i hi => (nmP_iff s i).2 ?_⟩
    have h5 := (icP_iff (bAt_lt s i)).1 (h4 i hi)
    rcases Nat.eq_zero_or_pos i with rfl | h0
    · omega
    · omega
  · rintro ⟨⟨h1, h2⟩, h3⟩
    have h0 := (nmP_iff s 0).1 (h3 0 (by omega))
    refine ⟨⟨⟨by omega, h2⟩, by omega⟩, fun i hi => (icP_iff (bAt_lt s i)).2 ?_⟩
    have h5 := (nmP_iff s i).1 (h3 i hi)
    omega

end Go.Proofs.YtonogeiopicibaaGreatDoor

/- Walks by the evaluator: heap.Int. -/
namespace Go.Proofs.YtonogeiopicibaaGreatDoor
open Go.RowKit
variable {md me : Bool}

def nuV (n : Int) : Vl := ⟨2, decide (n < 0), lim n.natAbs, false, [], ByteArray.empty, 0⟩
structure Lm (m : Nat) where
  u : Nat
  l : List Nat
  eq : l ++ lim u = lim m
  le : u ≤ m
  pw : u * 4294967296 ^ l.length ≤ m
def Lm.next {m : Nat} (x : Lm m) (h : x.u ≠ 0) : Lm m := ⟨x.u / 4294967296, x.l ++ [x.u % 4294967296], by rw [← x.eq, lim_pos h, List.append_assoc]; rfl, by have := x.le; omega, by
  refine Nat.le_trans ?_ x.pw
  rw [List.length_append, List.length_singleton, Nat.pow_succ, Nat.mul_comm (4294967296 ^ _), ← Nat.mul_assoc]
  exact Nat.mul_le_mul_right _ (Nat.div_mul_le_self _ _)⟩
theorem Lm.short {m : Nat} (x : Lm m) (h : 0 < x.u) (hm : m < 18446744073709551616) : x.l.length ≤ 2 := by
  rcases Nat.lt_or_ge 2 x.l.length with h3 | h3
  · have h1 : 4294967296 ^ 3 ≤ 4294967296 ^ x.l.length := Nat.pow_le_pow_right (by omega) h3
    have h2 : 1 * 4294967296 ^ x.l.length ≤ x.u * 4294967296 ^ x.l.length := Nat.mul_le_mul_right _ h
    have h4 := x.pw
    omega
  · exact h3
theorem w_neg {n : Int} (h : n < 0) (h1 : -9223372036854775808 ≤ n) : IntKind.u64.wrap (0 - IntKind.u64.wrap n) = ((n.natAbs : Nat) : Int) := by
  simp only [IntKind.wrap, IntKind.signed, IntKind.bits, Bool.false_and, Bool.false_eq_true, if_false]
  omega
theorem w_pos {n : Int} (h : 0 ≤ n) (h1 : n ≤ 9223372036854775807) : IntKind.u64.wrap n = ((n.natAbs : Nat) : Int) := by
  simp only [IntKind.wrap, IntKind.signed, IntKind.bits, Bool.false_and, Bool.false_eq_true, if_false]
  omega
theorem sh32 (u : Nat) : ((u : Int)).fdiv (2 ^ min (Int.toNat 32) IntKind.u64.bits) = ((u / 4294967296 : Nat) : Int) := by
  show ((u : Int)).fdiv 4294967296 = _
  rw [Int.fdiv_eq_ediv_of_nonneg _ (by decide)]
  omega
theorem w32 (u : Nat) : IntKind.u32.wrap (u : Int) = ((u % 4294967296 : Nat) : Int) := by
  simp only [IntKind.wrap, IntKind.signed, IntKind.bits, Bool.false_and, Bool.false_eq_true, if_false]
  omega

end Go.Proofs.YtonogeiopicibaaGreatDoor

/- Walks by the evaluator: N: numbers of the document. -/
namespace Go.Proofs.YtonogeiopicibaaGreatDoor
open Go.RowKit
variable {md me : Bool}

def nD (n : Nat) : List D := [.v (.int .i64 n)]
def natD (n : Nat) : D := .sl false 1 (dig n) nD 0
structure Trm (l : List Nat) where
  r : List Nat
  dg : Dg r
  eq : V r = V l
  le : r.length ≤ l.length
theorem last_take {r : List Nat} (h : 0 < r.length) (h0 : r.getD (r.length - 1) 0 = 0) : V (r.take (r.length - 1)) = V r := by
  have h1 := V_take_succ' r (r.length - 1)
  rw [h0, show r.length - 1 + 1 = r.length by omega, List.take_of_length_le (Nat.le_refl _)] at h1
  omega
def Trm.next {l : List Nat} (x : Trm l) (h : 0 < x.r.length) (h0 : x.r.getD (x.r.length - 1) 0 = 0) : Trm l := ⟨x.r.take (x.r.length - 1), x.dg.take _, by rw [last_take h h0, x.eq], by have := x.le; simp; omega⟩
theorem Trm.fin {l : List Nat} (x : Trm l) (h : 0 < x.r.length → x.r.getD (x.r.length - 1) 0 ≠ 0) : x.r = dig (V l) := by
  rw [← x.eq]
  refine (dig_V x.dg fun hne => ?_).symm
  have hp : 0 < x.r.length := List.length_pos_iff.2 hne
  rw [List.getLast_eq_getElem, ← getD_lt (by omega)]
  exact h hp
structure Bn (l : List Bool) where
  j : Nat
  o : List Nat
  eq : V o = VB (l.take (16 * j))
  lo : o.length = j
  dg : Dg o
  le : 16 * j ≤ l.length + 15
def Bn.next {l : List Bool} (x : Bn l) (h : 16 * x.j < l.length) : Bn l := ⟨x.j + 1, x.o ++ [chunk l (16 * x.j) 0], binary_step x.eq x.lo h, by simp [x.lo], x.dg.snoc (chunk_lt _ _ _), by omega⟩

theorem t_cut {α : Type} (r : List α) : List.take (((r.length : Int) - 1).toNat - Int.toNat 0) (List.drop (Int.toNat 0) r) = r.take (r.length - 1) := by
  show List.take _ r = _
  congr 1; simp
theorem t_last (r : List Nat) : r.getD ((r.length : Int) - 1).toNat 0 = r.getD (r.length - 1) 0 := by congr 1; omega
theorem chunk_at {l : List Bool} {i k : Nat} (hk : k < 16) : chunk l i k = chunk l i (k + 1) * 2 + (if decide (i + k < l.length) && l.getD (i + k) false then 1 else 0) := by
  rw [chunk_step hk, Nat.mul_comm]
  by_cases h : i + k < l.length
  · rw [dif_pos h, decide_eq_true h, Bool.true_and, List.getD_eq_getElem?_getD, List.getElem?_eq_getElem h]; cases l[i + k] <;> rfl
  · rw [dif_neg h, decide_eq_false h]; rfl
/-- The bit that is read. -/
def bitAt (l : List Bool) (i k : Nat) : Bool := decide (i + k < l.length) && l.getD (i + k) false
theorem chunk_one {l : List Bool} {i k : Nat} (hk : k < 16) (h : bitAt l i k = true) : chunk l i k = chunk l i (k + 1) * 2 + 1 := by rw [chunk_at hk]; unfold bitAt at h; rw [h]; rfl
theorem chunk_nil {l : List Bool} {i k : Nat} (hk : k < 16) (h : bitAt l i k = false) : chunk l i k = chunk l i (k + 1) * 2 := by rw [chunk_at hk]; unfold bitAt at h; rw [h]; rfl
/-- Where the inner loop stands. -/
structure Bj where
  k : Nat
  le : k ≤ 16

theorem bit_T {l : List Bool} {I k : Nat} (hk : 1 ≤ k) (h : (I : Int) + ((k : Int) - 1) < l.length ∧ l.getD ((I : Int) + ((k : Int) - 1)).toNat false = true) : bitAt l I (k - 1) = true := by
  unfold bitAt
  rw [show ((I : Int) + ((k : Int) - 1)).toNat = I + (k - 1) by omega] at h
  rw [h.2, decide_eq_true (by omega)]; rfl
theorem bit_F {l : List Bool} {I k : Nat} (hk : 1 ≤ k) (h : (decide ((I : Int) + ((k : Int) - 1) < l.length) && l.getD ((I : Int) + ((k : Int) - 1)).toNat false) = false) : bitAt l I (k - 1) = false := by
  unfold bitAt
  rw [show ((I : Int) + ((k : Int) - 1)).toNat = I + (k - 1) by omega] at h
  rw [show decide (I + (k - 1) < l.length) = decide ((I : Int) + ((k : Int) - 1) < l.length) from decide_eq_decide.2 (by omega)]; exact h
theorem Bn.all {l : List Bool} (x : Bn l) (h : l.length ≤ 16 * x.j) : V x.o = VB l := by rw [x.eq, List.take_of_length_le h]
structure Nb (n : Int) where
  m : Int
  o : List Bool
  eq : VB o + m.natAbs * 2 ^ o.length = n.natAbs
  lo : -9223372036854775808 ≤ m
  hi : m ≤ 9223372036854775807
  ln : o.length ≤ 64
theorem nb_bit (m : Int) : (!decide (Int.tmod m 2 = 0)) = (m.natAbs % 2 == 1) := by
  have : (Int.tmod m 2).natAbs = m.natAbs % 2 := by
    rw [Int.natAbs_tmod]; rfl
  rw [Bool.eq_iff_iff, Bool.not_eq_true', decide_eq_false_iff_not, beq_iff_eq, ← this]
  have h : (Int.tmod m 2).natAbs < 2 := by rw [this]; omega
  omega
theorem nb_half (m : Int) : (Int.tdiv m 2).natAbs = m.natAbs / 2 := by rw [Int.natAbs_tdiv]; rfl
def Nb.next {n : Int} (x : Nb n) (h : x.o.length ≤ 63) : Nb n := ⟨Int.tdiv x.m 2, x.o ++ [!decide (Int.tmod x.m 2 = 0)], by
  rw [nb_bit, nb_half, List.length_append, List.length_singleton]
  exact ones_step x.eq rfl, by have := nb_half x.m; have := x.lo; have := x.hi; omega, by have := nb_half x.m; have := x.lo; have := x.hi; omega, by simp; omega⟩
theorem Nb.len {n : Int} (x : Nb n) (h : ¬ x.m = 0) (h1 : -9223372036854775808 ≤ n) (h2 : n ≤ 9223372036854775807) : x.o.length ≤ 63 := by
  rcases Nat.lt_or_ge 63 x.o.length with h3 | h3
  · have h4 : 2 ^ 64 ≤ 2 ^ x.o.length := Nat.pow_le_pow_right (by omega) h3
    have h5 : 1 * 2 ^ x.o.length ≤ x.m.natAbs * 2 ^ x.o.length := Nat.mul_le_mul_right _ (by omega)
    have h6 := x.eq
    omega
  · exact h3
theorem Nb.fin {n : Int} (x : Nb n) (h : x.m = 0) : VB x.o = n.natAbs := by rw [← x.eq, h]; simp
structure Lb (n : Nat) where
  j : Nat
  o : List Nat
  eq : VL o = V ((dig n).take (2 * j))
  lo : o.length = j
  lg : Lg o
  le : 2 * j < (dig n).length + 2
theorem dig_at (n i : Nat) : (dig n).getD i 0 < 65536 := by
  rcases Nat.lt_or_ge i (dig n).length with h | h
  · rw [getD_lt h]; exact (dig_Dg n).at h
  · rw [getD_ge h]; omega
def lbD (n j : Nat) : Nat := (dig n).getD (2 * j) 0 + (dig n).getD (2 * j + 1) 0 * 65536
theorem lb_T (n j : Nat) : IntKind.u32.wrap (IntKind.u32.wrap (((dig n).getD (2 * j) 0 : Nat) : Int) + IntKind.u32.wrap (IntKind.u32.wrap (((dig n).getD (2 * j + 1) 0 : Nat) : Int) * 65536)) = ((lbD n j : Nat) : Int) := by
  have h1 := dig_at n (2 * j)
  have h2 := dig_at n (2 * j + 1)
  unfold lbD
  simp only [IntKind.wrap, IntKind.signed, IntKind.bits, Bool.false_and, Bool.false_eq_true, if_false]
  omega
theorem lb_F (n j : Nat) (h : (dig n).length ≤ 2 * j + 1) : IntKind.u32.wrap (((dig n).getD (2 * j) 0 : Nat) : Int) = ((lbD n j : Nat) : Int) := by
  have h1 := dig_at n (2 * j)
  unfold lbD
  rw [getD_ge h]
  simp only [IntKind.wrap, IntKind.signed, IntKind.bits, Bool.false_and, Bool.false_eq_true, if_false]
  omega
def Lb.next {n : Nat} (x : Lb n) (h : 2 * x.j < (dig n).length) : Lb n := ⟨x.j + 1, x.o ++ [lbD n x.j], limbs_step x.eq x.lo, by simp [x.lo], x.lg.snoc (by have h1 := dig_at n (2 * x.j); have h2 := dig_at n (2 * x.j + 1); unfold lbD; omega), by omega⟩
theorem Lb.fin {n : Nat} (x : Lb n) (h : (dig n).length ≤ 2 * x.j) : x.o = lim n := limbs_end (by rw [x.lo]; exact x.eq) (by rw [x.lo]; exact h) (by rw [x.lo]; exact x.le) x.lg

theorem trim_ok (l : List Nat) (hd : Dg l) (hl : l.length ≤ 1000000000) : Fn Tryz.prog 124 [.sl false 1 l nD 0] (natD (V l)) := by
  refine fn_ev tabT Tryz.func124 rfl rfl rfl rfl rfl rfl ?_
  intro w0 s0 mx
  refine ev_R tabT [] 100 ?_
  refine ev_seq ?_
  refine ev_block ?_
  refine ev_loopK (ι := Trm l) [] [] 150 (fun x => [(0, .sl false 1 x.r nD 0)]) (fun _ => []) (fun x => x.r.length) ⟨l, hd, rfl, Nat.le_refl _⟩ ?_
  refine ⟨⟨le_t, le_o, rfl, rfl⟩, fun x => ?_⟩
  have hk := x.le
  refine ev_seq ?_
  refine ev_R tabT [] 200 ?_
  refine ev_if (fun c1 => ?_) (fun c1 => ?_)
  · 
    refine ev_skip ?_
    refine exS_normal ?_
    refine ev_block ?_
    refine ev_Q tabT [] 300 ?_
    refine exBl_normal ?_
    exact exL_normal (x.next (by omega) (by have := c1.2; rw [t_last] at this; omega)) ⟨(by first | exact trivial | (repeat (first | exact trivial | exact Sub.refl _ | refine ⟨?_, ?_⟩ | exact Sub.int (by first | rfl | omega | (push_cast; omega)) | exact Sub.nilSl | exact Sub.own rfl | exact Sub.slrSl rfl | exact Sub.ownSl (List.map_append).symm | exact Sub.ownSl rfl | exact Sub.of_eq (by show D.sl false 1 _ nD 0 = _; rw [t_cut]; rfl)))), le_o, rfl, rfl⟩ (by show (x.r.take (x.r.length - 1)).length < x.r.length; rw [List.length_take]; omega)
  · 
    refine ev_exit ?_
    refine exS_exit ?_
    refine exL_exit ?_
    refine exBl_same ?_
    refine exS_normal ?_
    refine ev_R tabT [] 400 ?_
    refine ev_ret ?_
    exact FinV.ret rfl (SubP.of_eq (by show _ = D.sl false 1 _ nD 0; rw [← x.fin fun h e => by rw [t_last, e, decide_eq_true (by omega)] at c1; cases c1]))

theorem whole_neg (z : Int) : (decide (z < 0) && decide ((0 : Int) < ((dig z.natAbs).length : Nat))) = decide (z < 0) := by
  by_cases h : z < 0
  · rw [decide_eq_true h, Bool.true_and]
    refine decide_eq_true ?_
    have h2 : dig z.natAbs ≠ [] := fun e => by rw [dig_eq_nil] at e; omega
    have := List.length_pos_iff.2 h2
    omega
  · rw [decide_eq_false h]; rfl

theorem dig_small {n : Int} (h1 : -9223372036854775808 ≤ n) (h2 : n ≤ 9223372036854775807) : (dig n.natAbs).length ≤ 100000000 := Nat.le_trans (dig_length_le (k := 4) (by omega)) (by omega)

end Go.Proofs.YtonogeiopicibaaGreatDoor
