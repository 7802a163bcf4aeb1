/- A rule for a region that draws its order: what holds when a set of its operations has been carried out, whatever the order. Each operation is looked at once. Nothing here speaks of the program. -/
import Derived.RegionTactic
import Derived.WalkKit
namespace Go.Proofs.Ytbickehhnkhabaa

/-- i has been carried out as well. -/
def upd (D : Nat → Bool) (i : Nat) : Nat → Bool := fun j => if j = i then true else D j

def left (n : Nat) (listed : Array Bool) : Nat := ((List.range n).filter fun j => !listed.getD j true).length

theorem filter_lt {α : Type} (l : List α) (p q : α → Bool) (x : α) (hx : x ∈ l) (hp : p x = true) (hq : q x = false) (h : ∀ y, q y = true → p y = true) : (l.filter q).length < (l.filter p).length := by
  induction l with
  | nil => simp at hx
  | cons y l ih =>
    have hle : ∀ m : List α, (m.filter q).length ≤ (m.filter p).length := fun m => by
      induction m with
      | nil => simp
      | cons z m ihm =>
        rw [List.filter_cons, List.filter_cons]
        by_cases hz : q z = true
        · rw [if_pos hz, if_pos (h z hz)]; simp; exact ihm
        · rw [if_neg hz]; split
          · simp; omega
          · exact ihm
    rw [List.filter_cons, List.filter_cons]
    rcases List.mem_cons.1 hx with rfl | hx
    · rw [if_pos hp, if_neg (by simp [hq])]; have := hle l; simp; omega
    · have := ih hx
      by_cases hz : q y = true
      · rw [if_pos hz, if_pos (h y hz)]; simp; exact this
      · rw [if_neg hz]; split
        · simp; omega
        · exact this

theorem getD_set (l : Array Bool) (i y : Nat) (d : Bool) : (l.setIfInBounds i true).getD y d = if y = i ∧ i < l.size then true else l.getD y d := by
  rw [Array.getD_eq_getD_getElem?, Array.getD_eq_getD_getElem?, Array.getElem?_setIfInBounds]
  by_cases h : i = y
  · subst h
    by_cases h2 : i < l.size
    · simp [h2]
    · simp [h2]
  · have : ¬ (y = i) := fun e => h e.symm
    simp [h, this]

theorem wpAny_og {P : Program} {ops : Array Oper} {Q : Exit → Act → World → Prop} (I : (Nat → Bool) → Act → World → Prop)
    (hstep : ∀ (i : Nat) (o : Oper), ops[i]? = some o → ∀ (D : Nat → Bool) a w, I D a w → D i = false → (∀ e ∈ o.after.toList, Region.binds .any e = true → D e.on = true) →
      if Region.wanted o (yielded ops a.tmps) = true then o.wp P a w (I (upd D i)) Q else I (upd D i) (a.put o.dst undef) w)
    (hend : ∀ (D : Nat → Bool) a w, I D a w → (∀ (i : Nat) (o : Oper), ops[i]? = some o → D i = true) → Q .normal a w)
    (hlow : ∀ (i : Nat) (o : Oper), ops[i]? = some o → ∀ e ∈ o.after.toList, e.on < i) :
    ∀ (fuel : Nat) (listed : Array Bool) (a : Act) (w : World), listed.size = ops.size → left ops.size listed ≤ fuel → I (fun j => listed.getD j false) a w → wpAny P .any ops Q fuel listed a w := by
  have hall : ∀ listed : Array Bool, listed.size = ops.size → Region.ready .any ops listed = [] → ∀ i o, ops[i]? = some o → listed.getD i false = true := by
    intro listed hs h0 i
    induction i using Nat.strongRecOn with
    | ind i ih =>
      intro o ho
      have hi : i < ops.size := by
        rcases Nat.lt_or_ge i ops.size with h | h
        · exact h
        · rw [Array.getElem?_eq_none h] at ho; cases ho
      cases hd : listed.getD i false with
      | true => rfl
      | false =>
        have hmem : i ∈ Region.ready .any ops listed := by
          unfold Region.ready
          rw [List.mem_filter]
          refine ⟨List.mem_range.2 hi, ?_⟩
          have h1 : listed.getD i true = false := by
            simp only [Array.getD] at hd ⊢
            split at hd
            · rename_i hlt; rw [dif_pos hlt]; exact hd
            · omega
          rw [h1, ho]
          simp only [Bool.not_false, Bool.true_and, Option.map_some, Option.getD_some]
          rw [Array.all_eq_true_iff_forall_mem]
          intro e he
          have hlt := hlow i o ho e (by simpa using he)
          have := ih e.on hlt (ops[e.on]'(by omega)) (Array.getElem?_eq_getElem (by omega))
          rw [this]; simp
        rw [h0] at hmem; cases hmem
  intro fuel
  induction fuel with
  | zero =>
    intro listed a w hs hl hI
    have h0 : Region.ready .any ops listed = [] := by
      unfold Region.ready
      unfold left at hl
      rw [List.filter_eq_nil_iff]
      intro i hi hc
      have : i ∈ (List.range ops.size).filter fun j => !listed.getD j true := by
        rw [List.mem_filter]
        simp only [Bool.and_eq_true] at hc
        exact ⟨hi, hc.1⟩
      have := List.length_pos_of_mem this
      omega
    exact ⟨h0, hend _ _ _ hI (hall listed hs h0)⟩
  | succ fuel ih =>
    intro listed a w hs hl hI
    refine ⟨fun h0 => hend _ _ _ hI (hall listed hs h0), fun i hi => ?_⟩
    unfold Region.ready at hi
    rw [List.mem_filter] at hi
    obtain ⟨hr, hc⟩ := hi
    have hr' := List.mem_range.1 hr
    have ho : ops[i]? = some ops[i] := Array.getElem?_eq_getElem hr'
    rw [ho] at hc
    simp only [Bool.and_eq_true, Option.map_some, Option.getD_some, Bool.not_eq_true'] at hc
    have hD : listed.getD i false = false := by
      have := hc.1
      simp only [Array.getD] at this ⊢
      split at this
      · rename_i hlt; rw [dif_pos hlt]; exact this
      · cases this
    have hst := hstep i ops[i] ho _ a w hI hD (fun e he hb => by
      have h1 := (Array.all_eq_true_iff_forall_mem.1 hc.2) e (by simpa using he)
      rw [hb] at h1; simpa using h1)
    have hnext : ∀ a' w', I (upd (fun j => listed.getD j false) i) a' w' → wpAny P .any ops Q fuel (listed.setIfInBounds i true) a' w' := by
      intro a' w' hI'
      refine ih _ a' w' (by simpa using hs) ?_ ?_
      · have : left ops.size (listed.setIfInBounds i true) < left ops.size listed := by
          unfold left
          refine filter_lt _ _ _ i hr (by simpa using hc.1) ?_ ?_
          · rw [getD_set, if_pos ⟨rfl, by omega⟩]; rfl
          · intro y hy
            rw [getD_set] at hy
            split at hy
            · simp at hy
            · exact hy
        omega
      · have hfun : (fun j => (listed.setIfInBounds i true).getD j false) = upd (fun j => listed.getD j false) i := by
          funext j
          unfold upd
          rw [getD_set]
          by_cases e : j = i
          · rw [if_pos ⟨e, by omega⟩, if_pos e]
          · rw [if_neg (fun h => e h.1), if_neg e]
        rw [hfun]; exact hI'
    unfold wpOp
    rw [ho]
    simp only
    split at hst
    · rename_i hw
      rw [if_pos hw]
      exact .inl (Oper.wp_mono hnext hst)
    · rename_i hw
      rw [if_neg hw]
      exact hnext _ _ hst

theorem wp_region_og {P : Program} {ops : Array Oper} {Q : Exit → Act → World → Prop} {id : Nat} {a : Act} {w : World} (hm : P.follows .mixedOrders = true) (I : (Nat → Bool) → Act → World → Prop)
    (hlow : ops.toList.zipIdx.all (fun x => x.1.after.toList.all fun e => decide (e.on < x.2)) = true)
    (h0 : I (fun _ => false) a w.drew)
    (hstep : ∀ (i : Nat) (o : Oper), ops[i]? = some o → ∀ (D : Nat → Bool) a w, I D a w → D i = false → (∀ e ∈ o.after.toList, Region.binds .any e = true → D e.on = true) →
      if Region.wanted o (yielded ops a.tmps) = true then o.wp P a w (I (upd D i)) Q else I (upd D i) (a.put o.dst undef) w)
    (hend : ∀ (D : Nat → Bool) a w, I D a w → (∀ (i : Nat) (o : Oper), ops[i]? = some o → D i = true) → Q .normal a w) : (Code.region id ops true).wp P Q a w := by
  refine wp_region_any hm (wpAny_og I hstep hend ?_ _ _ _ _ (by simp) ?_ ?_)
  · intro i o ho e he
    have h1 := List.all_eq_true.1 hlow (o, i) (by
      rw [List.mem_zipIdx_iff_getElem?]
      simpa using ho)
    have := List.all_eq_true.1 h1 e he
    simpa using this
  · unfold left
    exact Nat.le_trans (List.length_filter_le _ _) (by simp)
  · have : (fun j => (Array.replicate ops.size false).getD j false) = fun _ => false := by
      funext j
      simp only [Array.getD]
      split <;> simp
    rw [this]; exact h0

/-- The same, what follows an operation behind a letter: for the walk. -/
theorem wp_region_ogk {P : Program} {ops : Array Oper} {Q : Exit → Act → World → Prop} {id : Nat} {a : Act} {w : World} (hm : P.follows .mixedOrders = true) (I : (Nat → Bool) → Act → World → Prop)
    (hlow : ops.toList.zipIdx.all (fun x => x.1.after.toList.all fun e => decide (e.on < x.2)) = true)
    (h0 : I (fun _ => false) a w.drew)
    (hend : ∀ (D : Nat → Bool) a w, I D a w → (∀ (i : Nat) (o : Oper), ops[i]? = some o → D i = true) → Q .normal a w)
    (hstep : ∀ (i : Nat) (o : Oper), ops[i]? = some o → ∀ (D : Nat → Bool) a w, I D a w → D i = false → (∀ e ∈ o.after.toList, Region.binds .any e = true → D e.on = true) →
      ∀ K : Act → World → Prop, (∀ a w, I (upd D i) a w → K a w) → if Region.wanted o (yielded ops a.tmps) = true then o.wp P a w K Q else K (a.put o.dst undef) w) : (Code.region id ops true).wp P Q a w :=
  wp_region_og hm I hlow h0 (fun i o ho D a w h1 h2 h3 => hstep i o ho D a w h1 h2 h3 _ fun _ _ h => h) hend
end Go.Proofs.Ytbickehhnkhabaa
