/- Opening, in the numbers of the program: values, texts. -/
import Derived.Test.YtbickehhnkhabaaBd14
namespace Go.Proofs.Ytbickehhnkhabaa
open Go.ChangeShapes Go.WideShapes Go.ChangeAt Go.RowKit Go.Deep

section
variable {H : Type} {enc : TypeId × Value → H} {w : World} {base : Nat} {held : Bool}
theorem open_val_A {fuel : Nat} {cs : List Value} {x : DataW H × List MemPlace} (h : DataW.trod enc Try.prog w base (fun _ => true) held fuel 58 cs = some x) : ∃ v : Val, cs = valC v ∧ GoodVal w v :=
  open_val Try.underlying58 Try.underlying56 Try.underlying54 Try.underlying113 (by kernel_rfl) Try.underlying3 rfl rfl Try.underlying9 Try.underlying3 Try.underlying4 rfl rfl rfl rfl rfl rfl rfl rfl
    (by kernel_rfl) (by kernel_rfl) (by kernel_rfl) (by kernel_rfl) (by kernel_rfl) (by kernel_rfl) (by kernel_rfl) h

theorem vals_of_trod {fuel : Nat} {v : Value} {d : DataW H} {ps : List MemPlace} (h : DataW.trod enc Try.prog w base (fun _ => true) held fuel 36 [v] = some (d, ps)) (hw : Wt Try.prog 36 d) :
    ∃ l, ValsAt w v l ∧ (∀ x ∈ l, GoodVal w x) ∧ l.length ≤ 140737488355328 := by
  have hC : Try.prog.cellsOf 58 = 7 := by kernel_rfl
  have hB : Try.prog.bytesOf 58 = 96 := by kernel_rfl
  rcases open_slice Try.underlying36 h with ⟨hcs, _⟩ | ⟨a, len, cap, m, n, D, Pl, hcs, _, hl, hm, hmm, hx, hi⟩
  · simp only [List.cons.injEq, and_true] at hcs
    subst hcs
    exact ⟨[], RowS.nil 7 w, fun x hx => by simp at hx, by simp⟩
  · simp only [List.cons.injEq, and_true] at hcs
    subst hcs
    simp only [if_true] at hmm
    subst hmm
    rw [maxLen_eq] at hm
    simp only [Prod.mk.injEq] at hx
    obtain ⟨rfl, -⟩ := hx
    have hwt := (wt_slice Try.underlying36 hw).1
    rw [hB, reach_eq] at hwt
    simp only [List.length_map, List.length_range] at hwt
    have hel : ∀ i, i < len → ∃ v : Val, (∃ b off, a = ⟨b, off, none⟩ ∧ ∀ j (hj : j < 7), w.cell? ⟨b, off + (i * 7 + j), none⟩ = (valC v)[j]?) ∧ GoodVal w v := by
      intro i hil
      obtain ⟨cs', hc, ht'⟩ := hi i (by omega)
      rw [hC] at hc
      obtain ⟨_, hcl, hat⟩ := World.cells?_some hc
      obtain ⟨v, rfl, hg⟩ := open_val_A ht'
      refine ⟨v, ?_, hg⟩
      obtain ⟨cs0, hc0, _⟩ := hi 0 (by omega)
      rw [Nat.zero_mul, hC] at hc0
      obtain ⟨_, hcl0, hat0⟩ := World.cells?_some hc0
      have h0 := hat0 (i := 0) (by omega)
      have hlt0 : 0 < cs0.length := by omega
      have h0' := h0.trans (List.getElem?_eq_getElem hlt0)
      obtain ⟨b, off, spot⟩ := a
      have hspot : spot = none := by
        have := World.cell?_spot h0'
        simpa [Addr.add] using this
      subst hspot
      refine ⟨b, off, rfl, fun j hj => ?_⟩
      have h1 := hat (i := j) (by omega)
      rw [add_at, add_at] at h1
      rw [show off + (i * 7 + j) = off + i * 7 + j by omega]
      exact h1
    obtain ⟨l, hll, hl2⟩ := list_of_all _ len hel
    subst hll
    refine ⟨l, ⟨some a, m, rfl, hl, ⟨hm, fun h => by cases h⟩, flat_length7 l, fun j hj => ?_⟩, fun x hx => ?_, by omega⟩
    · have hj7 : j < l.length * 7 := by rw [flat_length7] at hj; exact hj
      obtain ⟨⟨b, off, rfl, hc⟩, _⟩ := hl2 (j / 7) (by omega)
      have h1 := hc (j % 7) (Nat.mod_lt _ (by omega))
      have h2 := flat_at l (j / 7) (j % 7) (by omega) (Nat.mod_lt _ (by omega))
      rw [show j / 7 * 7 + j % 7 = j by omega] at h1 h2
      exact ⟨b, off, rfl, by rw [h1, ← h2, List.getElem?_eq_getElem hj]⟩
    · obtain ⟨i, hi, rfl⟩ := List.getElem_of_mem hx
      exact (hl2 i hi).2

theorem strs_of_trod {fuel : Nat} {v : Value} {d : DataW H} {ps : List MemPlace} (h : DataW.trod enc Try.prog w base (fun _ => true) held fuel 37 [v] = some (d, ps)) (hw : Wt Try.prog 37 d) :
    ∃ l : List ByteArray, RowOf Value.string w v l ∧ (∀ s ∈ l, s.size ≤ 140737488355328) ∧ l.length ≤ 140737488355328 := by
  have hB : Try.prog.bytesOf 9 = 16 := by kernel_rfl
  rcases open_strings Try.underlying37 Try.underlying9 (by kernel_rfl) h with ⟨hcs, _⟩ | ⟨a, len, cap, ss, hcs, _, hl, hm, hz, hx, hcell, _⟩
  · simp only [List.cons.injEq, and_true] at hcs
    subst hcs
    exact ⟨[], RowOf.nil _ _, fun x hx => by simp at hx, by simp⟩
  · simp only [List.cons.injEq, and_true] at hcs
    subst hcs
    simp only [if_true] at hz
    rw [maxLen_eq] at hm
    simp only [Prod.mk.injEq] at hx
    obtain ⟨rfl, -⟩ := hx
    obtain ⟨hwt, hel⟩ := wt_slice Try.underlying37 hw
    rw [hB, reach_eq] at hwt
    have hlen : (ss.take len).length = len := by simp; omega
    simp only [strs, List.length_map] at hwt
    refine ⟨ss.take len, ⟨some a, cap, by rw [hlen], by rw [hlen]; exact hl, hm, fun i hi => ?_⟩, fun s hs => ?_, by omega⟩
    · have hi' : i < ss.length ∧ i < len := by simp at hi; omega
      have h1 := hcell i hi'.1
      obtain ⟨b, off, spot⟩ := a
      have hspot : spot = none := spot_none (hcell 0 (by omega))
      subst hspot
      refine ⟨b, off, rfl, ?_⟩
      rw [add_at] at h1
      rw [h1, List.getD_eq_getElem?_getD, List.getElem?_eq_getElem hi'.1, List.getElem_take]
      rfl
    · have h2 := wt_string (hel (.lit (.string s.data.toList)) (by
        simp only [strs, List.mem_map]
        exact ⟨s, hs, rfl⟩))
      rw [reach_eq] at h2
      have : s.data.toList.length = s.size := by rw [Array.length_toList]; rfl
      omega
end
end Go.Proofs.Ytbickehhnkhabaa
