/- Arguments opened: a reading of a value gives a list. -/
import Derived.Test.YtbickehhnkhabaaBase
import Derived.ProofKit
import Derived.OpenShut
import Derived.ShutString
import Derived.Deep.Matrix
namespace Go.Proofs.Ytbickehhnkhabaa
open Go.ChangeShapes Go.WideShapes Go.ChangeAt Go.RowKit Go.Deep




theorem fits_of_wf {x : Int} (h : (Lit.int .i64 x).wf = true) : Fits x := by
  simp [Lit.wf] at h
  have h1 : IntKind.i64.min = -9223372036854775808 := by decide
  have h2 : IntKind.i64.max = 9223372036854775807 := by decide
  unfold Fits
  omega

theorem add_at (b off i : Nat) : (⟨b, off, none⟩ : Addr).add i = ⟨b, off + i, none⟩ := by
  unfold Addr.add; split <;> simp_all

theorem spot_none {W : World} {x : Addr} {v : Value} (h : W.cell? (x.add 0) = some v) : x.spot = none := by
  have := World.cell?_spot h
  simpa [Addr.add] using this

theorem maxLen_eq : maxLen = 9223372036854775807 := by decide

theorem Ints_open {H : Type} {enc : TypeId × Value → H} {P : Program} {W : World} {base : Nat} {t e : TypeId} {v : Value} {d : DataW H} {ps : List MemPlace}
    (ht : P.underlying t = some (.slice e)) (he : P.underlying e = some (.int .i64)) (hc : P.cellsOf e = 1)
    (hv : Value.okWide P W .any base t v) (h : DataW.Trod enc P W 0 (fun _ => true) true t v d ps) :
    ∃ l, Ints W v l ∧ ∀ x ∈ l, Fits x := by
  obtain ⟨a, len, cap, rfl⟩ := okWide_slice ht hv
  obtain ⟨fuel, hf⟩ := h
  rcases open_ints ht he hc hf with ⟨hcs, _⟩ | ⟨x, l, c, zs, hcs, _, hl, hm, hz, _, hcell, hwz⟩
  · simp [Value.cells] at hcs
    obtain ⟨rfl, rfl, rfl⟩ := hcs
    exact ⟨[], RowOf.nil _ _, fun x h => by simp at h⟩
  · simp [Value.cells] at hcs
    obtain ⟨rfl, rfl, rfl⟩ := hcs
    have hz' : zs.length = cap := by simpa using hz
    have hlen : (zs.take len).length = len := by simp; omega
    rw [maxLen_eq] at hm
    refine ⟨zs.take len, ⟨some x, cap, by rw [hlen], by omega, by omega, fun i h => ?_⟩, fun y hy => fits_of_wf (hwz y (List.mem_of_mem_take hy))⟩
    rw [hlen] at h
    have h1 := hcell i (by omega)
    obtain ⟨b, off, spot⟩ := x
    have hspot : spot = none := spot_none (hcell 0 (by omega))
    subst hspot
    refine ⟨b, off, rfl, ?_⟩
    have hi : i < zs.length := by omega
    simpa [add_at, List.getD, hi] using h1

theorem IntRows_open {H : Type} {enc : TypeId × Value → H} {P : Program} {W : World} {base : Nat} {t e q : TypeId} {v : Value} {d : DataW H} {ps : List MemPlace}
    (ht : P.underlying t = some (.slice e)) (he : P.underlying e = some (.slice q)) (hq : P.underlying q = some (.int .i64)) (hc : P.cellsOf e = 1) (hcq : P.cellsOf q = 1)
    (hv : Value.okWide P W .any base t v) (h : DataW.Trod enc P W 0 (fun _ => true) true t v d ps) :
    ∃ B, IntRows W v B ∧ ∀ y ∈ B, ∀ x ∈ y, Fits x := by
  obtain ⟨a, len, cap, rfl⟩ := okWide_slice ht hv
  obtain ⟨fuel, hf⟩ := h
  rcases open_int_rows ht he hq hc hcq hf with ⟨hcs, _⟩ | ⟨x, l, c, A, L, C, Z, hcs, _, hl, hm, _, hrow⟩
  · simp [Value.cells] at hcs
    obtain ⟨rfl, rfl, rfl⟩ := hcs
    exact ⟨[], ⟨[], rfl, RowOf.nil _ _, fun i h => by simp at h⟩, fun x h => by simp at h⟩
  · simp [Value.cells] at hcs
    obtain ⟨rfl, rfl, rfl⟩ := hcs
    rw [maxLen_eq] at hm
    refine ⟨(List.range len).map fun r => (Z r).take (L r), ⟨(List.range len).map fun r => .slice (A r) (L r) (C r), by simp, ⟨some x, cap, by simp, by simpa using hl, hm, fun i hi => ?_⟩, fun i hi => ?_⟩, fun y hy z hz => ?_⟩
    · simp at hi
      have h1 := (hrow i (by omega)).1
      obtain ⟨b, off, spot⟩ := x
      have hspot : spot = none := spot_none (hrow 0 (by omega)).1
      subst hspot
      exact ⟨b, off, rfl, by simpa [add_at] using h1⟩
    · simp at hi
      obtain ⟨_, hLC, hCm, hZ, _, hnone, hsome⟩ := hrow i (by omega)
      rw [maxLen_eq] at hCm
      have hlen : ((Z i).take (L i)).length = L i := by simp; omega
      simp only [List.getElem_map, List.getElem_range]
      refine ⟨A i, C i, by rw [hlen], by rw [hlen]; exact hLC, hCm, fun j hj => ?_⟩
      rw [hlen] at hj
      cases hAi : A i with
      | none => have := hnone hAi; omega
      | some y =>
        have h2 := (hsome y hAi).2
        obtain ⟨b, off, spot⟩ := y
        have hspot : spot = none := spot_none (h2 0 (by omega))
        subst hspot
        have hjz : j < (Z i).length := by omega
        exact ⟨b, off, rfl, by simpa [add_at, List.getD, hjz] using h2 j (by omega)⟩
    · simp at hy
      obtain ⟨r, hr, rfl⟩ := hy
      exact fits_of_wf ((hrow r (by omega)).2.2.2.2.1 z (List.mem_of_mem_take hz))

theorem Int_open {H : Type} {enc : TypeId × Value → H} {P : Program} {W : World} {base : Nat} {t : TypeId} {v : Value} {d : DataW H} {ps : List MemPlace}
    (ht : P.underlying t = some (.int .i64)) (hv : Value.okWide P W .any base t v) (h : DataW.Trod enc P W 0 (fun _ => true) true t v d ps) :
    ∃ x, v = .int .i64 x ∧ Fits x := by
  obtain ⟨x, rfl, _, _, hw⟩ := open_int ht hv h
  exact ⟨x, rfl, fits_of_wf hw⟩
end Go.Proofs.Ytbickehhnkhabaa
