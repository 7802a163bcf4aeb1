/- Part 3 of the proof. -/
import Derived.OrdersHeld
import Derived.Test.YtpmadgmjkljbgaaDoorM2
import Derived.Deep.AppendLies
import Derived.Deep.RegionLaw
import Derived.Deep.RegionHeld3
import Derived.Test.YtpmadgmjkljbgaaDoorM1

/- A law for a region that draws its order, loads cells and stores to them later: a load may be taken first where what it reads stands in every world in which the load has not yet been carried out. Nothing here speaks of the program. -/
namespace Go.Proofs.YtpmadgmjkljbgaaDoor

section
variable {P : Program} {ops : Array Oper} {Q : Exit → Act → World → Prop} {md : Region.Mode} {S : Array Bool → World → Prop}

/-- Whatever comes up from here on; S, which may hang on what has been carried out, is shown behind each operation. -/
def wpAnyL (P : Program) (md : Region.Mode) (ops : Array Oper) (Q : Exit → Act → World → Prop) (S : Array Bool → World → Prop) : Nat → Array Bool → Act → World → Prop
  | 0, L, a, w => Region.ready md ops L = [] ∧ Q .normal a w
  | n + 1, L, a, w => (Region.ready md ops L = [] → Q .normal a w) ∧
      ∀ i ∈ Region.ready md ops L, wpOp P ops Q i (fun a' w' => S (L.setIfInBounds i true) w' ∧ wpAnyL P md ops Q S n (L.setIfInBounds i true) a' w') a w

theorem wpAny_of_L : ∀ (n : Nat) (L : Array Bool) (a : Act) (w : World), wpAnyL P md ops Q S n L a w → wpAny P md ops Q n L a w
  | 0, _, _, _, h => h
  | n + 1, _, _, _, h => ⟨h.1, fun i hi => wpOp_mono (fun a' w' h' => wpAny_of_L n _ a' w' h'.2) (h.2 i hi)⟩

/-- What has been carried out has behind it all that it waits for. -/
def Closed (md : Region.Mode) (ops : Array Oper) (L : Array Bool) : Prop :=
  ∀ (j : Nat) (o : Oper), ops[j]? = some o → L.getD j false = true → ∀ e ∈ o.after, Region.binds md e = true → L.getD e.on false = true

theorem getD_set_any (L : Array Bool) (i y : Nat) (d : Bool) (h : L.getD y d = true) : (L.setIfInBounds i true).getD y d = true := by
  rw [Array.getD_eq_getD_getElem?, Array.getElem?_setIfInBounds]
  rw [Array.getD_eq_getD_getElem?] at h
  by_cases hy : i = y
  · subst hy
    by_cases h2 : i < L.size
    · simp [h2]
    · rw [Array.getElem?_eq_none (by omega)] at h
      simpa [h2] using h
  · simpa [hy] using h

theorem Closed.step {L : Array Bool} {j : Nat} (h : Closed md ops L) (hj : j ∈ Region.ready md ops L) : Closed md ops (L.setIfInBounds j true) := by
  obtain ⟨hjun, oj, hoj, hall⟩ := mem_ready.1 hj
  intro k o hk hl e he hb
  by_cases hkj : k = j
  · subst hkj
    rw [hoj] at hk
    cases hk
    exact getD_set_any _ _ _ _ (hall e he hb)
  · rw [getD_set_ne false (Ne.symm hkj)] at hl
    exact getD_set_any _ _ _ _ (h k o hk hl e he hb)

theorem getD_put_ne (L : Array Bool) {i k : Nat} (h : i ≠ k) : (L.setIfInBounds i true).getD k false = L.getD k false := getD_set_ne false h

def edgeB (md : Region.Mode) (ops : Array Oper) (k i : Nat) : Bool := ((ops[k]?).map fun o => o.after.any fun e => Region.binds md e && e.on == i).getD false
theorem Closed.edge {L : Array Bool} {k i : Nat} (h : Closed md ops L) (he : edgeB md ops k i = true) (hk : L.getD k false = true) : L.getD i false = true := by
  unfold edgeB at he
  cases ho : ops[k]? with
  | none => rw [ho] at he; cases he
  | some o =>
    rw [ho] at he
    simp only [Option.map_some, Option.getD_some] at he
    obtain ⟨x, hx, hb⟩ := Array.any_eq_true.1 he
    obtain ⟨e, hm⟩ : ∃ e, e = o.after[x] := ⟨_, rfl⟩
    rw [← hm] at hb
    have hm : e ∈ o.after := hm ▸ Array.getElem_mem hx
    rw [Bool.and_eq_true, beq_iff_eq] at hb
    have := h k o ho hk e hm hb.1
    rw [hb.2] at this; exact this

def closedB (md : Region.Mode) (ops : Array Oper) (L : Array Bool) : Bool :=
  (List.range ops.size).all fun j => ((ops[j]?).map fun o => !(L.getD j false) || o.after.all fun e => !(Region.binds md e) || L.getD e.on false).getD true
theorem Closed.of_B {L : Array Bool} (h : closedB md ops L = true) : Closed md ops L := by
  intro j o hj hl e he hb
  unfold closedB at h
  rw [List.all_eq_true] at h
  have hjl : j < ops.size := by
    rcases Nat.lt_or_ge j ops.size with h' | h'
    · exact h'
    · rw [Array.getElem?_eq_none h'] at hj; cases hj
  have h1 := h j (List.mem_range.2 hjl)
  rw [hj] at h1
  simp only [Option.map_some, Option.getD_some, hl, Bool.not_true, Bool.false_or] at h1
  obtain ⟨x, hx, rfl⟩ := Array.getElem_of_mem he
  have h2 := Array.all_eq_true.1 h1 x hx
  rw [hb] at h2
  simpa using h2

/-- k waits for i: while i has not been carried out, neither has k. -/
theorem Closed.notYet {L : Array Bool} {k i : Nat} (h : Closed md ops L) (he : edgeB md ops k i = true) (hi : L.getD i false = false) : L.getD k false = false := by
  cases hk : L.getD k false with
  | false => rfl
  | true => rw [h.edge he hk] at hi; cases hi
theorem getD_false {L : Array Bool} {i : Nat} (h : L.getD i true = false) : L.getD i false = false := by
  rw [Array.getD_eq_getD_getElem?] at h ⊢
  cases hg : L[i]? with
  | none => rfl
  | some b => rw [hg] at h; simpa using h

theorem Closed.start (n : Nat) : Closed md ops (Array.replicate n false) := by
  intro j o _ hl
  exfalso
  rw [Array.getD_eq_getD_getElem?, Array.getElem?_replicate] at hl
  split at hl <;> simp at hl

theorem wpAnyL_first {T : World → Prop} {i : Nat} {oi : Oper} {v : Value} (hi : ops[i]? = some oi) (hsel : ∀ (j : Nat) (o : Oper) cs b, ops[j]? = some o → o.op ≠ .select cs b)
    (hQ : ∀ c a w, Q (.panic c) (a.put oi.dst v) w → Q (.panic c) a w) (hSi : ∀ L w, S (L.setIfInBounds i true) w ↔ S L w) (hT : ∀ L w, Closed md ops L → L.getD i true = false → S L w → T w) :
    ∀ (n : Nat) (L : Array Bool) (a : Act) (w : World), Closed md ops L →
      (∀ j oj, ops[j]? = some oj → j ≠ i → L.getD j true = false → (∀ e ∈ oj.after, Region.binds md e = true → e.on ≠ i) → oi.apart ops oj = true) →
      i ∈ Region.ready md ops L → YieldsIf P ops T oi v a → S L w →
      wpAnyL P md ops Q S n (L.setIfInBounds i true) (a.put oi.dst v) w → wpAnyL P md ops Q S (n + 1) L a w := by
  intro n
  induction n with
  | zero =>
    intro L a w hcl _ hr hy hS H
    refine ⟨fun h => (by rw [h] at hr; cases hr), fun j hj => ?_⟩
    by_cases hji : j = i
    · subst hji
      exact hy.wpOp hi (hT L w hcl (mem_ready.1 hr).1 hS) ⟨(hSi L w).2 hS, H⟩
    · have := ready_mono hj hji
      rw [H.1] at this
      cases this
  | succ n ih =>
    intro L a w hcl hfree hr hy hS H
    refine ⟨fun h => (by rw [h] at hr; cases hr), fun j hj => ?_⟩
    by_cases hji : j = i
    · subst hji
      exact hy.wpOp hi (hT L w hcl (mem_ready.1 hr).1 hS) ⟨(hSi L w).2 hS, H⟩
    · have h1 := H.2 j (ready_mono hj hji)
      obtain ⟨hjun, oj, hoj, hall⟩ := mem_ready.1 hj
      have hnot : ∀ e ∈ oj.after, Region.binds md e = true → e.on ≠ i := fun e he hb heq => by
        have h1 := hall e he hb
        have h0 := (mem_ready.1 hr).1
        rw [heq] at h1
        rcases Nat.lt_or_ge i L.size with h' | h'
        · simp [h'] at h0 h1; rw [h0] at h1; cases h1
        · simp [Array.getElem?_eq_none h'] at h1
      have h2 := wpOp_putIf hoj (hfree j oj hoj hji hjun hnot) (fun cs b => hsel i oi cs b hi) (fun cs b => hsel j oj cs b hoj) hQ hy h1
      have hfree' : ∀ k ok, ops[k]? = some ok → k ≠ i → (L.setIfInBounds j true).getD k true = false →
          (∀ e ∈ ok.after, Region.binds md e = true → e.on ≠ i) → oi.apart ops ok = true := fun k ok hk hki hun hno => by
        refine hfree k ok hk hki ?_ hno
        by_cases hjk : j = k
        · subst hjk; exact hjun
        · rw [getD_set_ne true hjk] at hun; exact hun
      refine wpOp_mono (fun a' w' h3 => ?_) h2
      have hS' : S (L.setIfInBounds j true) w' := by
        have h4 := h3.2.1
        rw [Array.setIfInBounds_comm _ _ (Ne.symm hji)] at h4
        exact (hSi _ _).1 h4
      refine ⟨hS', ih (L.setIfInBounds j true) a' w' (hcl.step hj) hfree' (ready_mono hr (Ne.symm hji)) h3.1 hS' ?_⟩
      rw [Array.setIfInBounds_comm _ _ hji]
      exact h3.2.2

/-- Take number i first. -/
theorem wpAnyL_take {T : World → Prop} {i : Nat} {oi : Oper} {v : Value} {n : Nat} {L : Array Bool} {a : Act} {w : World} (hi : ops[i]? = some oi)
    (hs : Region.noSelect ops = true) (hf : Region.free md ops L i = true) (hr : (Region.ready md ops L).contains i = true)
    (hQ : ∀ c a w, Q (.panic c) (a.put oi.dst v) w → Q (.panic c) a w) (hSi : ∀ L w, S (L.setIfInBounds i true) w ↔ S L w) (hT : ∀ L w, Closed md ops L → L.getD i true = false → S L w → T w) (hcl : Closed md ops L)
    (hy : YieldsIf P ops T oi v a) (hS : S L w) (h : wpAnyL P md ops Q S n (L.setIfInBounds i true) (a.put oi.dst v) w) : wpAnyL P md ops Q S (n + 1) L a w :=
  wpAnyL_first hi (Region.noSelect_spec hs) hQ hSi hT n L a w hcl (Region.free_spec hi hf) (by simpa using hr) hy hS h

theorem wpAnyL_all {rs : List Nat} {n : Nat} {L : Array Bool} {a : Act} {w : World} (hr : Region.ready md ops L = rs) (hne : rs ≠ [])
    (h : ∀ i ∈ rs, wpOp P ops Q i (fun a' w' => S (L.setIfInBounds i true) w' ∧ wpAnyL P md ops Q S n (L.setIfInBounds i true) a' w') a w) : wpAnyL P md ops Q S (n + 1) L a w :=
  ⟨fun h0 => absurd (hr ▸ h0) hne, hr ▸ h⟩

def AllL (P : Program) (md : Region.Mode) (ops : Array Oper) (Q : Exit → Act → World → Prop) (S : Array Bool → World → Prop) (n : Nat) (L : Array Bool) (a : Act) (w : World) (rs : List Nat) : Prop :=
  ∀ i ∈ rs, wpOp P ops Q i (fun a' w' => S (L.setIfInBounds i true) w' ∧ wpAnyL P md ops Q S n (L.setIfInBounds i true) a' w') a w
theorem AllL.nil {n : Nat} {L : Array Bool} {a : Act} {w : World} : AllL P md ops Q S n L a w [] := fun _ h => by cases h
theorem AllL.cons {n : Nat} {L : Array Bool} {a : Act} {w : World} {i : Nat} {o : Oper} {rs : List Nat} (ho : ops[i]? = some o) (hw : Region.wanted o (yielded ops a.tmps) = true)
    (h : ∀ K' : Act → World → Prop, (∀ a' w', S (L.setIfInBounds i true) w' ∧ wpAnyL P md ops Q S n (L.setIfInBounds i true) a' w' → K' a' w') → Oper.wp P o a w K' Q)
    (hs : AllL P md ops Q S n L a w rs) : AllL P md ops Q S n L a w (i :: rs) := fun j hj => by
  rcases List.mem_cons.1 hj with rfl | hj
  · unfold wpOp
    simp only [ho, hw, if_true]
    exact .inl (h _ fun _ _ h => h)
  · exact hs j hj
theorem wpAnyL_ready {rs : List Nat} {n : Nat} {L : Array Bool} {a : Act} {w : World} (hr : Region.ready md ops L = rs) (hne : rs ≠ []) (h : AllL P md ops Q S n L a w rs) : wpAnyL P md ops Q S (n + 1) L a w := wpAnyL_all hr hne h

theorem wpAnyL_done {L : Array Bool} {a : Act} {w : World} (hr : Region.ready md ops L = []) (h : Q .normal a w) : ∀ n, wpAnyL P md ops Q S n L a w
  | 0 => ⟨hr, h⟩
  | _ + 1 => ⟨fun _ => h, by rw [hr]; simp⟩

theorem wp_region_L {id : Nat} {a : Act} {w : World} (hm : P.follows .mixedOrders = true)
    (h : wpAnyL P .any ops Q S ops.size (Array.replicate ops.size false) a { w with drawn := w.drawn + 1 }) : (Code.region id ops true).wp P Q a w :=
  wp_region_any hm (wpAny_of_L _ _ _ _ h)
end
end Go.Proofs.YtpmadgmjkljbgaaDoor

/- Walk: Of (brindlewoodref3). -/
namespace Go.Proofs.YtpmadgmjkljbgaaDoor
open Go.RowKit

/-- Cells and what they hold. -/
def Cs (l : List (Addr × Value)) (W : World) : Prop := ∀ x ∈ l, W.cell? x.1 = some x.2
theorem Cs.alloc {l : List (Addr × Value)} {W : World} (h : Cs l W) (o : Obj) : Cs l (W.alloc o) := fun x hx => Lib.cell?_alloc_some _ (h x hx)

set_option maxRecDepth 100000 in
set_option maxHeartbeats 2000000 in
theorem Of_any (lv : Value) (l : List Nat) (w : World) (hv : RowU w lv l) (hg : Lg l) (hn : l.length ≤ 100000) :
    Calls Tryd.prog 40 #[lv] w fun e w' => ∃ v', e = .returned v' ∧ NatAt w' v' (VL l) ∧ Below w.heap.size w w' := by
  have HV := Lib.hid hv
  have HG := Lib.hid hg
  obtain ⟨la, lc, rfl, hal, ham, -⟩ := hv
  obtain ⟨i0, hii, hz0, hz1, hz2⟩ := info_parts infoI
  clear hg
  go_enter Tryd.func40, Tryd.ntmps40
  go_wp2
  go_loopg [3, 4] l.length (fun q s3 s4 wr => ∃ (k : Nat) (o : List Nat), s4 = .int .i64 k ∧ k ≤ l.length ∧ l.length - k ≤ q ∧ wr.ownsRow w.heap.size 3 1 s3 o.length (o.map cellN) ∧ Hid (o.length = 2 * k) ∧ Hid (V o = VL (l.take k)) ∧ Hid (Dg o) ∧ Below w.heap.size w wr)
  case atStart => exact ⟨0, [], rfl, by omega, by omega, World.ownsRow_nil _ _ _ _, rfl, rfl, Dg.nil, Below.refl _ _⟩
  case round =>
    obtain ⟨k, o, rfl, hk, hq, hown, hol, hV, hD, hb⟩ := hrel
    by_cases hA : k < l.length
    · have i1' : ((k : Int) < (l.length : Int)) := by omega
      obtain ⟨a', c', he, _, _, hc⟩ := HV.out.below hb
      simp only [Value.slice.injEq, true_and] at he
      obtain ⟨rfl, rfl⟩ := he
      obtain ⟨b1, o1, rfl, z1⟩ := hc k hA
      have hp : l[k] < 4294967296 := HG.out _ (List.getElem_mem hA)
      have HS := Lib.hid (of_step hV.out hol.out hA)
      have HD2 := Lib.hid (of_Dg hD.out hp)
      have hol2 : o.length ≤ 200000 := by rw [hol.out]; omega
      clear hc hV
      generalize l[k] = p at *
      have E1 := Lib.hid (show IntKind.i64.wrap (Int.tmod (p : Int) 65536) = ((p % 65536 : Nat) : Int) by rw [show Int.tmod (p : Int) 65536 = ((p % 65536 : Nat) : Int) from tmod_nat p 65536, IntKind.wrap_i64]; omega)
      have E2 := Lib.hid (show IntKind.i64.wrap (Int.tdiv (p : Int) 65536) = ((p / 65536 : Nat) : Int) by rw [show Int.tdiv (p : Int) 65536 = ((p / 65536 : Nat) : Int) from tdiv_nat p 65536, IntKind.wrap_i64]; omega)
      have E3 := Lib.hid (show (p : Int) % 65536 = ((p % 65536 : Nat) : Int) from rfl)
      have E4 := Lib.hid (show IntKind.i64.wrap (IntKind.u32.wrap ((p : Int) / 65536)) = ((p / 65536 : Nat) : Int) by rw [show (p : Int) / 65536 = ((p / 65536 : Nat) : Int) from rfl, IntKind.wrap_u32, IntKind.wrap_i64]; omega)
      have hb1 : b1 < w.heap.size := by
        obtain ⟨a', c', he, _, _, hc⟩ := HV.out
        simp only [Value.slice.injEq, true_and] at he
        obtain ⟨rfl, rfl⟩ := he
        obtain ⟨b', o', e, h1⟩ := hc k hA
        simp only [Option.some.injEq, Addr.mk.injEq, and_true] at e
        obtain ⟨rfl, rfl⟩ := e
        exact World.block_lt_of_cell? _ _ h1
      have hS0 : Cs [(⟨b1, o1 + k, none⟩, .int .u32 (p : Int))] wr.drew := by
        intro x hx
        rw [List.mem_singleton.1 hx]
        exact z1
      have hown0 := own_drew hown
      have hbd := hb.drew
      obtain ⟨sa, sc, rfl⟩ := own_isSlice hown
      go_wp2
      refine wp_region_noPanic ?_
      refine wp_region_L (S := fun _ W => Cs [(⟨b1, o1 + k, none⟩, .int .u32 (p : Int))] W) (by kernel_rfl) ?_
      refine wpAnyL_take (T := fun _ => True) (i := 0) (v := ?vvo0) rfl (by kernel_rfl) (by kernel_rfl) (by kernel_rfl) (fun _ _ _ h => h) (fun _ _ => Iff.rfl) (fun _ _ _ _ _ => trivial) (Closed.of_B (by kernel_rfl)) (Or.inl ⟨by kernel_rfl, ?hyo0⟩) hS0 ?resto0
      case hyo0 => (intro w _; go_simp; with_reducible rfl)
      go_simp
      refine wpAnyL_take (T := fun _ => True) (i := 1) (v := ?vvo1) rfl (by kernel_rfl) (by kernel_rfl) (by kernel_rfl) (fun _ _ _ h => h) (fun _ _ => Iff.rfl) (fun _ _ _ _ _ => trivial) (Closed.of_B (by kernel_rfl)) (Or.inl ⟨by kernel_rfl, ?hyo1⟩) hS0 ?resto1
      case hyo1 => (intro w _; go_simp; with_reducible rfl)
      go_simp
      refine wpAnyL_take (T := fun _ => True) (i := 2) (v := ?vvo2) rfl (by kernel_rfl) (by kernel_rfl) (by kernel_rfl) (fun _ _ _ h => h) (fun _ _ => Iff.rfl) (fun _ _ _ _ _ => trivial) (Closed.of_B (by kernel_rfl)) (Or.inl ⟨by kernel_rfl, ?hyo2⟩) hS0 ?resto2
      case hyo2 => (intro w _; go_simp; with_reducible rfl)
      go_simp
      refine wpAnyL_take (T := fun _ => True) (i := 3) (v := ?vvo3) rfl (by kernel_rfl) (by kernel_rfl) (by kernel_rfl) (fun _ _ _ h => h) (fun _ _ => Iff.rfl) (fun _ _ _ _ _ => trivial) (Closed.of_B (by kernel_rfl)) (Or.inl ⟨by kernel_rfl, ?hyo3⟩) hS0 ?resto3
      case hyo3 => (intro w _; go_simp; with_reducible rfl)
      go_simp
      refine wpAnyL_take (T := fun W => Cs [(⟨b1, o1 + k, none⟩, .int .u32 (p : Int))] W) (i := 4) (v := ?vvo4) rfl (by kernel_rfl) (by kernel_rfl) (by kernel_rfl) (fun _ _ _ h => h) (fun _ _ => Iff.rfl) (fun _ _ _ _ h => h) (Closed.of_B (by kernel_rfl)) (Or.inl ⟨by kernel_rfl, ?hyo4⟩) hS0 ?resto4
      case hyo4 => (intro W hW; simp only [Cs, List.forall_mem_cons] at hW; obtain ⟨m0, -⟩ := hW; go_simp; with_reducible rfl)
      go_simp
      refine wpAnyL_take (T := fun _ => True) (i := 5) (v := ?vvo5) rfl (by kernel_rfl) (by kernel_rfl) (by kernel_rfl) (fun _ _ _ h => h) (fun _ _ => Iff.rfl) (fun _ _ _ _ _ => trivial) (Closed.of_B (by kernel_rfl)) (Or.inl ⟨by kernel_rfl, ?hyo5⟩) hS0 ?resto5
      case hyo5 => (intro w _; go_simp; with_reducible rfl)
      go_simp
      refine wpAnyL_take (T := fun _ => True) (i := 6) (v := ?vvo6) rfl (by kernel_rfl) (by kernel_rfl) (by kernel_rfl) (fun _ _ _ h => h) (fun _ _ => Iff.rfl) (fun _ _ _ _ _ => trivial) (Closed.of_B (by kernel_rfl)) (Or.inl ⟨by kernel_rfl, ?hyo6⟩) hS0 ?resto6
      case hyo6 => (intro w _; go_simp; with_reducible rfl)
      go_simp
      refine wpAnyL_take (T := fun _ => True) (i := 7) (v := ?vvo7) rfl (by kernel_rfl) (by kernel_rfl) (by kernel_rfl) (fun _ _ _ h => h) (fun _ _ => Iff.rfl) (fun _ _ _ _ _ => trivial) (Closed.of_B (by kernel_rfl)) (Or.inl ⟨by kernel_rfl, ?hyo7⟩) hS0 ?resto7
      case hyo7 => (intro w _; go_simp; with_reducible rfl)
      go_simp
      refine wpAnyL_take (T := fun _ => True) (i := 8) (v := ?vvo8) rfl (by kernel_rfl) (by kernel_rfl) (by kernel_rfl) (fun _ _ _ h => h) (fun _ _ => Iff.rfl) (fun _ _ _ _ _ => trivial) (Closed.of_B (by kernel_rfl)) (Or.inl ⟨by kernel_rfl, ?hyo8⟩) hS0 ?resto8
      case hyo8 => (intro w _; go_simp; with_reducible rfl)
      go_simp
      refine wpAnyL_take (T := fun _ => True) (i := 9) (v := ?vvo9) rfl (by kernel_rfl) (by kernel_rfl) (by kernel_rfl) (fun _ _ _ h => h) (fun _ _ => Iff.rfl) (fun _ _ _ _ _ => trivial) (Closed.of_B (by kernel_rfl)) (Or.inl ⟨by kernel_rfl, ?hyo9⟩) hS0 ?resto9
      case hyo9 => (intro w _; go_simp; with_reducible rfl)
      go_simp
      refine wpAnyL_take (T := fun W => Cs [(⟨b1, o1 + k, none⟩, .int .u32 (p : Int))] W) (i := 10) (v := ?vvo10) rfl (by kernel_rfl) (by kernel_rfl) (by kernel_rfl) (fun _ _ _ h => h) (fun _ _ => Iff.rfl) (fun _ _ _ _ h => h) (Closed.of_B (by kernel_rfl)) (Or.inl ⟨by kernel_rfl, ?hyo10⟩) hS0 ?resto10
      case hyo10 => (intro W hW; simp only [Cs, List.forall_mem_cons] at hW; obtain ⟨m0, -⟩ := hW; go_simp; with_reducible rfl)
      go_simp
      refine wpAnyL_take (T := fun _ => True) (i := 11) (v := ?vvo11) rfl (by kernel_rfl) (by kernel_rfl) (by kernel_rfl) (fun _ _ _ h => h) (fun _ _ => Iff.rfl) (fun _ _ _ _ _ => trivial) (Closed.of_B (by kernel_rfl)) (Or.inl ⟨by kernel_rfl, ?hyo11⟩) hS0 ?resto11
      case hyo11 => (intro w _; go_simp; with_reducible rfl)
      go_simp
      refine wpAnyL_take (T := fun _ => True) (i := 12) (v := ?vvo12) rfl (by kernel_rfl) (by kernel_rfl) (by kernel_rfl) (fun _ _ _ h => h) (fun _ _ => Iff.rfl) (fun _ _ _ _ _ => trivial) (Closed.of_B (by kernel_rfl)) (Or.inl ⟨by kernel_rfl, ?hyo12⟩) hS0 ?resto12
      case hyo12 => (intro w _; go_simp; with_reducible rfl)
      go_simp
      simp only [E1.out, E2.out]
      refine wpAnyL_ready (rs := [13]) (by kernel_rfl) (by simp) ?_
      refine AllL.cons rfl (by kernel_rfl) (fun K hK => ?_) AllL.nil
      go_simp
      try simp only [E3.out]
      try simp only [E4.out]
      refine hK _ _ ⟨hS0.alloc _, ?_⟩
      clear hK K
      refine wpAnyL_ready (rs := [14]) (by kernel_rfl) (by simp) ?_
      refine AllL.cons rfl (by kernel_rfl) (fun K hK => ?_) AllL.nil
      refine wp_append_lies _ _ _ _ (by rfl) w.heap.size 3 i0 _ 1 8 Tryd.underlying39 hii hz0 hz1 hz2 rfl (by omega) (.slice sa o.length sc) o.length (o.map cellN) (by kernel_rfl) (hown0.alloc _) ⟨wr.heap.size, 0, none⟩ 2 2 [.int .i64 ((p % 65536 : Nat) : Int), .int .i64 ((p / 65536 : Nat) : Int)] (by kernel_rfl) (by rfl)
        (World.news_of_block (cs := #[.int .i64 ((p % 65536 : Nat) : Int), .int .i64 ((p / 65536 : Nat) : Int)]) (t := 3) (fr := (0, 0)) (show (wr.alloc (.cells #[.int .i64 ((p % 65536 : Nat) : Int), .int .i64 ((p / 65536 : Nat) : Int)] 3)).drew.heap[wr.heap.size]? = _ from heap_new wr _)) (by simp [Value.oneCell']) (by omega) (by rw [maxLen_eq']; omega) (by omega) (by have := hb.size; simp; omega) (wr.heap.size + 1) (by simp) ?_
      intro g cap w7 hown7 hgr hat _
      have hne : ∀ q, (Value.slice sa o.length sc).ownBlock = some q → w.heap.size ≤ q := fun q hq => (hown0.lt q hq).1
      have hS7 : Cs [(⟨b1, o1 + k, none⟩, .int .u32 (p : Int))] w7 := by
        intro x hx
        have h1 := hS0.alloc (.cells #[.int .i64 ((p % 65536 : Nat) : Int), .int .i64 ((p / 65536 : Nat) : Int)] 3) x hx
        rw [List.mem_singleton.1 hx] at h1 ⊢
        exact hgr.cell h1 (fun e => by have := hne b1 e.symm; omega)
      refine hK _ _ ⟨hS7, ?_⟩
      clear hK K
      have hb7 : Below w.heap.size w w7 := (hbd.alloc hb.size _).grown hgr (by have := hb.size; simp; omega) hne
      have hown8 : w7.ownsRow w.heap.size 3 1 (.slice (some ⟨g, 0, none⟩) (o.length + 2) cap) (o ++ [p % 65536, p / 65536]).length ((o ++ [p % 65536, p / 65536]).map cellN) := own_cast hown7 (by simp) (by simp [cellN])
      clear hS0 hown7 hgr hat hown0 hown hbd hne
      refine wpAnyL_ready (rs := [15]) (by kernel_rfl) (by simp) ?_
      refine AllL.cons rfl (by kernel_rfl) (fun K hK => ?_) AllL.nil
      go_simp
      refine hK _ _ ⟨hS7, ?_⟩
      clear hK K
      refine wpAnyL_done (by kernel_rfl) ?_ _
      refine NoPanic.normal ?_
      go_wp2
      go_roundg (l.length - (k + 1))
      case measure => omega
      case rel => exact ⟨k + 1, _, by go_num, by omega, Nat.le_refl _, hown8, by unfold Hid; simp [hol.out]; omega, HS, HD2, hb7⟩
    · have i1' : ¬ ((k : Int) < (l.length : Int)) := by omega
      have hT := trim_any u3 o wr (rowN_own hown) hD.out
      rw [hV.out, List.take_of_length_le (by omega)] at hT
      have HT := Lib.hid hT
      clear hT hV
      go_wp2_with (go_at_call 66; refine HT.out.mono ?_; rintro e w3 ⟨v', rfl, hN', rfl⟩)
      go_ret
      exact ⟨_, rfl, hN', hb⟩
end Go.Proofs.YtpmadgmjkljbgaaDoor

/- Walks: Int.Order, Int.Fits (brindlewoodref3). -/
namespace Go.Proofs.YtpmadgmjkljbgaaDoor
open Go.RowKit

theorem cmpZ_pos (m n : Nat) : cmpZ (m : Int) (n : Int) = cmpN m n := by
  unfold cmpZ cmpN
  by_cases h1 : m < n
  · rw [if_pos (by omega), if_pos h1]
  · rw [if_neg (by omega), if_neg h1]
    by_cases h2 : n < m
    · rw [if_pos (by omega), if_pos h2]
    · rw [if_neg (by omega), if_neg h2]
theorem cmpZ_neg (m n : Nat) : cmpZ (-(m : Int)) (-(n : Int)) = cmpN n m := by
  unfold cmpZ cmpN
  by_cases h1 : n < m
  · rw [if_pos (by omega), if_pos h1]
  · rw [if_neg (by omega), if_neg h1]
    by_cases h2 : m < n
    · rw [if_pos (by omega), if_pos h2]
    · rw [if_neg (by omega), if_neg h2]
theorem cmpZ_lt {x y : Int} (h : x < y) : cmpZ x y = -1 := by unfold cmpZ; rw [if_pos h]
theorem cmpZ_gt {x y : Int} (h : y < x) : cmpZ x y = 1 := by unfold cmpZ; rw [if_neg (by omega), if_pos h]

set_option maxRecDepth 100000 in
set_option maxHeartbeats 2000000 in
theorem IntOrder_any (xv yv : Value) (x y : Int) (w : World) (hx : IntAt w xv x) (hy : IntAt w yv y) :
    Calls Tryd.prog 36 #[xv, yv] w fun e w' => e = .returned (.int .i64 (cmpZ x y)) ∧ Below w.heap.size w w' := by
  obtain ⟨b1, v1, m, rfl, hm, rfl⟩ := hx
  obtain ⟨b2, v2, n, rfl, hn, rfl⟩ := hy
  have HC1 := Lib.hid (fun W (h : Below w.heap.size w W) => Compare_any _ _ m n W (hm.below h) (hn.below h))
  have HC2 := Lib.hid (fun W (h : Below w.heap.size w W) => Compare_any _ _ n m W (hn.below h) (hm.below h))
  obtain ⟨a1, c1, rfl⟩ := hm.slice
  obtain ⟨a2, c2, rfl⟩ := hn.slice
  have HLM := Lib.hid (show (0 < (dig m).length) ↔ 0 < m by rw [List.length_pos_iff, Ne, dig_eq_nil]; omega)
  have HLN := Lib.hid (show (0 < (dig n).length) ↔ 0 < n by rw [List.length_pos_iff, Ne, dig_eq_nil]; omega)
  clear hm hn
  generalize (dig m).length = lm at *
  generalize (dig n).length = ln at *
  have hal := alloc2 w (.cells #[.bool b1, .slice a1 lm c1] 41) (.cells #[.bool b2, .slice a2 ln c2] 41)
  go_enter Tryd.func36, Tryd.ntmps36
  go_upto_region 1 with fail
  generalize ((w.alloc (.cells #[.bool b1, .slice a1 lm c1] 41)).alloc (.cells #[.bool b2, .slice a2 ln c2] 41)) = w2 at *
  obtain ⟨hb, h1, h3⟩ := hal
  have d0 := box_cell h1 0
  have d1 := box_cell h1 1
  have g0 := box_cell h3 0
  have g1 := box_cell h3 1
  simp only [List.getElem?_toArray, List.getElem?_cons_zero, List.getElem?_cons_succ] at d0 d1 g0 g1
  cases b1 with
  | true =>
    cases b2 with
    | true =>
      by_cases hm0 : 0 < lm
      · have hmz := HLM.out.1 hm0
        have j1 : ((lm : Int) > 0) := by omega
        by_cases hn0 : 0 < ln
        · have hnz := HLN.out.1 hn0
          have j2 : ((ln : Int) > 0) := by omega
          have HE := Lib.hid (show cmpZ (ZI true m) (ZI true n) = cmpN n m from cmpZ_neg m n)
          clear hn0 hnz hmz hm0
          go_wp2
          go_region
          go_wp2_with fail
          refine (HC2.out w2.drew hb.drew).mono ?_
          rintro e w3 ⟨rfl, hb3⟩
          go_wp2
          go_ret
          exact ⟨ret_int HE.out.symm, ext_trans hb.drew hb3⟩
        · have hnz : n = 0 := by have h' : ¬ 0 < n := fun h => hn0 (HLN.out.2 h); omega
          have j2 : ¬ ((ln : Int) > 0) := by omega
          have HE := Lib.hid (show cmpZ (ZI true m) (ZI true n) = -1 from cmpZ_lt (show -((m : Nat) : Int) < -((n : Nat) : Int) by omega))
          clear hn0 hnz hmz hm0
          go_wp2
          go_region
          go_wp2
          go_ret
          exact ⟨ret_int HE.out.symm, hb.drew⟩
      · have hmz : m = 0 := by have h' : ¬ 0 < m := fun h => hm0 (HLM.out.2 h); omega
        have j1 : ¬ ((lm : Int) > 0) := by omega
        by_cases hn0 : 0 < ln
        · have hnz := HLN.out.1 hn0
          have j2 : ((ln : Int) > 0) := by omega
          have HE := Lib.hid (show cmpZ (ZI true m) (ZI true n) = 1 from cmpZ_gt (show -((n : Nat) : Int) < -((m : Nat) : Int) by omega))
          clear hn0 hnz hmz hm0
          go_wp2
          go_region
          go_wp2
          go_ret
          exact ⟨ret_int HE.out.symm, hb.drew⟩
        · have hnz : n = 0 := by have h' : ¬ 0 < n := fun h => hn0 (HLN.out.2 h); omega
          have j2 : ¬ ((ln : Int) > 0) := by omega
          have HE := Lib.hid (show cmpZ (ZI true m) (ZI true n) = cmpN m n by rw [← cmpZ_pos]; show cmpZ (-((m : Nat) : Int)) (-((n : Nat) : Int)) = _; congr 1 <;> omega)
          clear hn0 hnz hmz hm0
          go_wp2
          go_region
          go_wp2_with fail
          refine (HC1.out w2.drew hb.drew).mono ?_
          rintro e w3 ⟨rfl, hb3⟩
          go_wp2
          go_ret
          exact ⟨ret_int HE.out.symm, ext_trans hb.drew hb3⟩
    | false =>
      by_cases hm0 : 0 < lm
      · have hmz := HLM.out.1 hm0
        have j1 : ((lm : Int) > 0) := by omega
        have HE := Lib.hid (show cmpZ (ZI true m) (ZI false n) = -1 from cmpZ_lt (show -((m : Nat) : Int) < ((n : Nat) : Int) by omega))
        clear hm0 hmz
        go_wp2
        go_region
        go_wp2
        go_ret
        exact ⟨ret_int HE.out.symm, hb.drew⟩
      · have hmz : m = 0 := by have h' : ¬ 0 < m := fun h => hm0 (HLM.out.2 h); omega
        have j1 : ¬ ((lm : Int) > 0) := by omega
        have HE := Lib.hid (show cmpZ (ZI true m) (ZI false n) = cmpN m n by rw [← cmpZ_pos]; show cmpZ (-((m : Nat) : Int)) (((n : Nat) : Int)) = _; congr 1 <;> omega)
        clear hm0 hmz
        go_wp2
        go_region
        go_wp2_with fail
        refine (HC1.out w2.drew hb.drew).mono ?_
        rintro e w3 ⟨rfl, hb3⟩
        go_wp2
        go_ret
        exact ⟨ret_int HE.out.symm, ext_trans hb.drew hb3⟩
  | false =>
    cases b2 with
    | true =>
      by_cases hn0 : 0 < ln
      · have hnz := HLN.out.1 hn0
        have j2 : ((ln : Int) > 0) := by omega
        have HE := Lib.hid (show cmpZ (ZI false m) (ZI true n) = 1 from cmpZ_gt (show -((n : Nat) : Int) < ((m : Nat) : Int) by omega))
        clear hn0 hnz
        go_wp2
        go_region
        go_wp2
        go_ret
        exact ⟨ret_int HE.out.symm, hb.drew⟩
      · have hnz : n = 0 := by have h' : ¬ 0 < n := fun h => hn0 (HLN.out.2 h); omega
        have j2 : ¬ ((ln : Int) > 0) := by omega
        have HE := Lib.hid (show cmpZ (ZI false m) (ZI true n) = cmpN m n by rw [← cmpZ_pos]; show cmpZ (((m : Nat) : Int)) (-((n : Nat) : Int)) = _; congr 1 <;> omega)
        clear hn0 hnz
        go_wp2
        go_region
        go_wp2_with fail
        refine (HC1.out w2.drew hb.drew).mono ?_
        rintro e w3 ⟨rfl, hb3⟩
        go_wp2
        go_ret
        exact ⟨ret_int HE.out.symm, ext_trans hb.drew hb3⟩
    | false =>
      have HE := Lib.hid (show cmpZ (ZI false m) (ZI false n) = cmpN m n from cmpZ_pos m n)
      go_wp2
      go_region
      go_wp2_with fail
      refine (HC1.out w2.drew hb.drew).mono ?_
      rintro e w3 ⟨rfl, hb3⟩
      go_wp2
      go_ret
      exact ⟨ret_int HE.out.symm, ext_trans hb.drew hb3⟩

theorem IntFits_any (xv : Value) (x : Int) (k : Nat) (w : World) (hx : IntAt w xv x) (hk : k ≤ 1000000) :
    Calls Tryd.prog 73 #[xv, .int .i64 (k : Nat)] w fun e w' => e = .returned (.bool (decide ((dig x.natAbs).length ≤ 2 * k))) ∧ Below w.heap.size w w' := by
  obtain ⟨b1, v1, m, rfl, hm, rfl⟩ := hx
  obtain ⟨a1, c1, rfl⟩ := hm.slice
  rw [ZI_abs]
  clear hm
  generalize (dig m).length = lm at *
  have hb := ext_alloc w (.cells #[.bool b1, .slice a1 lm c1] 41)
  have h1 := heap_new w (.cells #[.bool b1, .slice a1 lm c1] 41)
  have HR := Lib.hid (show decide ((lm : Int) ≤ 2 * (k : Int)) = decide (lm ≤ 2 * k) by rw [decide_eq_decide]; omega)
  go_enter Tryd.func73, Tryd.ntmps73
  go_upto_region 1 with fail
  generalize (w.alloc (.cells #[.bool b1, .slice a1 lm c1] 41)) = w2 at *
  have d1 := box_cell h1 1
  simp only [List.getElem?_toArray, List.getElem?_cons_zero, List.getElem?_cons_succ] at d1
  go_wp2
  go_ret
  exact ⟨ret_bool HR.out, hb⟩
end Go.Proofs.YtpmadgmjkljbgaaDoor

/- Walk: Int.Plus (brindlewoodref3). -/
namespace Go.Proofs.YtpmadgmjkljbgaaDoor
open Go.RowKit

theorem boxes_keep {w : World} {N M : Nat} {o : Obj} (h : w.heap[N]? = some o) (hne : N ≠ M) (a b : Value) : ((w.setCell ⟨M, 0, none⟩ a).setCell ⟨M, 1, none⟩ b).heap[N]? = some o := by
  simp [World.setCell, Array.getElem?_modify, h, hne.symm]

set_option maxRecDepth 100000 in
set_option maxHeartbeats 2000000 in
theorem IntPlus_any (xv yv : Value) (x y : Int) (w : World) (hx : IntAt w xv x) (hy : IntAt w yv y) (nx : (dig x.natAbs).length ≤ 100000) (ny : (dig y.natAbs).length ≤ 100000) :
    Calls Tryd.prog 48 #[xv, yv] w fun e w' => ∃ v', e = .returned v' ∧ IntAt w' v' (x + y) ∧ Below w.heap.size w w' := by
  obtain ⟨b1, v1, m, rfl, hm, rfl⟩ := hx
  obtain ⟨b2, v2, n, rfl, hn, rfl⟩ := hy
  rw [ZI_abs] at nx ny
  have HP := Lib.hid (fun W (h : Below w.heap.size w W) => Plus_any _ _ m n W (hm.below h) (hn.below h) (by omega) (by omega))
  have HC := Lib.hid (fun W (h : Below w.heap.size w W) => Compare_any _ _ m n W (hm.below h) (hn.below h))
  have HM1 := Lib.hid (fun (hle : n ≤ m) W (h : Below w.heap.size w W) => Minus_any _ _ m n W (hm.below h) (hn.below h) hle (by omega))
  have HM2 := Lib.hid (fun (hle : m ≤ n) W (h : Below w.heap.size w W) => Minus_any _ _ n m W (hn.below h) (hm.below h) hle (by omega))
  obtain ⟨a1, c1, rfl⟩ := hm.slice
  obtain ⟨a2, c2, rfl⟩ := hn.slice
  clear hm hn
  generalize (dig m).length = lm at *
  generalize (dig n).length = ln at *
  have hal := alloc3 w (.cells #[.bool b1, .slice a1 lm c1] 41) (.cells #[.bool b2, .slice a2 ln c2] 41) (.cells #[.bool false, .slice none 0 0] 41)
  go_enter Tryd.func48, Tryd.ntmps48
  go_upto_block 0 with fail
  generalize (((w.alloc (.cells #[.bool b1, .slice a1 lm c1] 41)).alloc (.cells #[.bool b2, .slice a2 ln c2] 41)).alloc (.cells #[.bool false, .slice none 0 0] 41)) = w1 at *
  obtain ⟨hb1, h1, h2, h3⟩ := hal
  have hcs : ∀ W : World, W.heap[w.heap.size]? = some (.cells #[.bool b1, .slice a1 lm c1] 41) → W.heap[w.heap.size + 1]? = some (.cells #[.bool b2, .slice a2 ln c2] 41) → Cs [(⟨w.heap.size, 0, none⟩, .bool b1), (⟨w.heap.size, 1, none⟩, .slice a1 lm c1), (⟨w.heap.size + 1, 0, none⟩, .bool b2), (⟨w.heap.size + 1, 1, none⟩, .slice a2 ln c2)] W := by
    intro W k1 k2
    have d0 := box_cell k1 0
    have d1 := box_cell k1 1
    have e0 := box_cell k2 0
    have e1 := box_cell k2 1
    simp only [List.getElem?_toArray, List.getElem?_cons_zero, List.getElem?_cons_succ] at d0 d1 e0 e1
    intro x hx
    simp only [List.mem_cons, List.not_mem_nil, or_false] at hx
    rcases hx with rfl | rfl | rfl | rfl
    · exact d0
    · exact d1
    · exact e0
    · exact e1
  have HCS := Lib.hid hcs
  clear hcs
  have hbd := hb1.drew
  have hle : w.heap.size ≤ w.heap.size + 1 + 1 := by omega
  have d0 := box_cell h1 0
  have d1 := box_cell h1 1
  have e0 := box_cell h2 0
  have e1 := box_cell h2 1
  simp only [List.getElem?_toArray, List.getElem?_cons_zero, List.getElem?_cons_succ] at d0 d1 e0 e1
  by_cases hbb : b1 = b2
  · subst hbb
    have j0 : (b1 == b1) = true := by simp
    go_upto_region 2 with fail
    clear d0 d1 e0 e1
    refine wp_region_noPanic ?_
    refine wp_region_L (S := fun _ W => Cs [(⟨w.heap.size, 0, none⟩, .bool b1), (⟨w.heap.size, 1, none⟩, .slice a1 lm c1), (⟨w.heap.size + 1, 0, none⟩, .bool b1), (⟨w.heap.size + 1, 1, none⟩, .slice a2 ln c2)] W) (by kernel_rfl) ?_
    refine wpAnyL_take (T := fun _ => True) (i := 0) (v := ?vvpa0) rfl (by kernel_rfl) (by kernel_rfl) (by kernel_rfl) (fun _ _ _ h => h) (fun _ _ => Iff.rfl) (fun _ _ _ _ _ => trivial) (Closed.of_B (by kernel_rfl)) (Or.inl ⟨by kernel_rfl, ?hypa0⟩) (HCS.out _ h1 h2) ?restpa0
    case hypa0 => (intro w _; go_simp; with_reducible rfl)
    go_simp
    refine wpAnyL_take (T := fun W => Cs [(⟨w.heap.size, 0, none⟩, .bool b1), (⟨w.heap.size, 1, none⟩, .slice a1 lm c1), (⟨w.heap.size + 1, 0, none⟩, .bool b1), (⟨w.heap.size + 1, 1, none⟩, .slice a2 ln c2)] W) (i := 1) (v := ?vvpa1) rfl (by kernel_rfl) (by kernel_rfl) (by kernel_rfl) (fun _ _ _ h => h) (fun _ _ => Iff.rfl) (fun _ _ _ _ h => h) (Closed.of_B (by kernel_rfl)) (Or.inl ⟨by kernel_rfl, ?hypa1⟩) (HCS.out _ h1 h2) ?restpa1
    case hypa1 => (intro W hW; simp only [Cs, List.forall_mem_cons] at hW; obtain ⟨m0, m1, m2, m3, -⟩ := hW; go_simp; with_reducible rfl)
    go_simp
    refine wpAnyL_take (T := fun _ => True) (i := 2) (v := ?vvpa2) rfl (by kernel_rfl) (by kernel_rfl) (by kernel_rfl) (fun _ _ _ h => h) (fun _ _ => Iff.rfl) (fun _ _ _ _ _ => trivial) (Closed.of_B (by kernel_rfl)) (Or.inl ⟨by kernel_rfl, ?hypa2⟩) (HCS.out _ h1 h2) ?restpa2
    case hypa2 => (intro w _; go_simp; with_reducible rfl)
    go_simp
    refine wpAnyL_take (T := fun W => Cs [(⟨w.heap.size, 0, none⟩, .bool b1), (⟨w.heap.size, 1, none⟩, .slice a1 lm c1), (⟨w.heap.size + 1, 0, none⟩, .bool b1), (⟨w.heap.size + 1, 1, none⟩, .slice a2 ln c2)] W) (i := 3) (v := ?vvpa3) rfl (by kernel_rfl) (by kernel_rfl) (by kernel_rfl) (fun _ _ _ h => h) (fun _ _ => Iff.rfl) (fun _ _ _ _ h => h) (Closed.of_B (by kernel_rfl)) (Or.inl ⟨by kernel_rfl, ?hypa3⟩) (HCS.out _ h1 h2) ?restpa3
    case hypa3 => (intro W hW; simp only [Cs, List.forall_mem_cons] at hW; obtain ⟨m0, m1, m2, m3, -⟩ := hW; go_simp; with_reducible rfl)
    go_simp
    refine wpAnyL_take (T := fun _ => True) (i := 4) (v := ?vvpa4) rfl (by kernel_rfl) (by kernel_rfl) (by kernel_rfl) (fun _ _ _ h => h) (fun _ _ => Iff.rfl) (fun _ _ _ _ _ => trivial) (Closed.of_B (by kernel_rfl)) (Or.inl ⟨by kernel_rfl, ?hypa4⟩) (HCS.out _ h1 h2) ?restpa4
    case hypa4 => (intro w _; go_simp; with_reducible rfl)
    go_simp
    refine wpAnyL_take (T := fun W => Cs [(⟨w.heap.size, 0, none⟩, .bool b1), (⟨w.heap.size, 1, none⟩, .slice a1 lm c1), (⟨w.heap.size + 1, 0, none⟩, .bool b1), (⟨w.heap.size + 1, 1, none⟩, .slice a2 ln c2)] W) (i := 5) (v := ?vvpa5) rfl (by kernel_rfl) (by kernel_rfl) (by kernel_rfl) (fun _ _ _ h => h) (fun _ _ => Iff.rfl) (fun _ _ _ _ h => h) (Closed.of_B (by kernel_rfl)) (Or.inl ⟨by kernel_rfl, ?hypa5⟩) (HCS.out _ h1 h2) ?restpa5
    case hypa5 => (intro W hW; simp only [Cs, List.forall_mem_cons] at hW; obtain ⟨m0, m1, m2, m3, -⟩ := hW; go_simp; with_reducible rfl)
    go_simp
    refine wpAnyL_ready (rs := [6]) (by kernel_rfl) (by simp) ?_
    refine AllL.cons rfl (by kernel_rfl) (fun K hK => ?_) AllL.nil
    go_simp
    refine (HP.out w1.drew hbd).mono ?_
    rintro e w2 ⟨v', rfl, hN, hb2⟩
    have hb := ext_trans hbd hb2
    replace h1 := (hb2.block _ (box_lt h1)).trans h1
    replace h2 := (hb2.block _ (box_lt h2)).trans h2
    replace h3 := (hb2.block _ (box_lt h3)).trans h3
    refine hK _ _ ⟨HCS.out _ h1 h2, ?_⟩
    clear hK K
    have HN := Lib.hid hN
    obtain ⟨a3, c3, rfl⟩ := hN.slice
    generalize (dig (m + n)).length = l3 at *
    clear hN
    refine wpAnyL_take (T := fun _ => True) (i := 7) (v := ?vvpaq7) rfl (by kernel_rfl) (by kernel_rfl) (by kernel_rfl) (fun _ _ _ h => h) (fun _ _ => Iff.rfl) (fun _ _ _ _ _ => trivial) (Closed.of_B (by kernel_rfl)) (Or.inl ⟨by kernel_rfl, ?hypaq7⟩) (HCS.out _ h1 h2) ?restpaq7
    case hypaq7 => (intro w _; go_simp; with_reducible rfl)
    go_simp
    have g0 := box_cell h3 0
    have g1 := box_cell h3 1
    have f0 := box_frozen h3 0
    have f1 := box_frozen h3 1
    simp only [List.getElem?_toArray, List.getElem?_cons_zero, List.getElem?_cons_succ] at g0 g1
    have hfin : NatAt ((w2.setCell ⟨w.heap.size + 1 + 1, 0, none⟩ (.bool b1)).setCell ⟨w.heap.size + 1 + 1, 1, none⟩ (.slice a3 l3 c3)) (.slice a3 l3 c3) (m + n) := natAt_set h3 HN.out b1 _
    have hset := intBox_set h3 b1 (.slice a3 l3 c3)
    have k1 := boxes_keep h1 (show w.heap.size ≠ w.heap.size + 1 + 1 by omega) (.bool b1) (.slice a3 l3 c3)
    have k2 := boxes_keep h2 (show w.heap.size + 1 ≠ w.heap.size + 1 + 1 by omega) (.bool b1) (.slice a3 l3 c3)
    have HBL := Lib.hid ((hb.setCell (p := ⟨w.heap.size + 1 + 1, 0, none⟩) hle (.bool b1)).setCell (p := ⟨w.heap.size + 1 + 1, 1, none⟩) hle (.slice a3 l3 c3))
    have t0 := box_cell hset 0
    have t1 := box_cell hset 1
    simp only [List.getElem?_toArray, List.getElem?_cons_zero, List.getElem?_cons_succ] at t0 t1
    have HQ := Lib.hid (show IntAt ((w2.setCell ⟨w.heap.size + 1 + 1, 0, none⟩ (.bool b1)).setCell ⟨w.heap.size + 1 + 1, 1, none⟩ (.slice a3 l3 c3)) (.agg #[.bool b1, .slice a3 l3 c3]) (ZI b1 m + ZI b1 n) from ⟨_, _, m + n, rfl, hfin, ZI_same b1 m n⟩)
    clear hfin
    refine wpAnyL_ready (rs := [8]) (by kernel_rfl) (by simp) ?_
    refine AllL.cons rfl (by kernel_rfl) (fun K hK => ?_) AllL.nil
    go_simp
    refine hK _ _ ⟨HCS.out _ k1 k2, ?_⟩
    clear hK K
    refine wpAnyL_done (by kernel_rfl) ?_ _
    refine NoPanic.normal ?_
    go_wp2
    refine bodyPost_ret (v := .agg #[.bool b1, .slice a3 l3 c3]) (by simp [results, Tryd.results48, go_sem, t0, t1]) rfl ?_
    exact ⟨_, rfl, HQ.out, HBL.out⟩
  · have j0 : (b1 == b2) = false := by simpa using hbb
    have HNE := Lib.hid hbb
    clear hbb hbd
    go_wp2_with fail
    refine (HC.out w1 hb1).mono ?_
    rintro e w5 ⟨rfl, hb5⟩
    replace h1 := (hb5.block _ (box_lt h1)).trans h1
    replace h2 := (hb5.block _ (box_lt h2)).trans h2
    replace h3 := (hb5.block _ (box_lt h3)).trans h3
    have hbd := (ext_trans hb1 hb5).drew
    clear d0 d1 e0 e1 hb5 hb1 HC
    by_cases hge : n ≤ m
    · have hcm : cmpN m n ≥ 0 := by unfold cmpN; rw [if_neg (by omega)]; split <;> omega
      generalize cmpN m n = cm at *
      go_upto_region 4 with fail
      refine wp_region_noPanic ?_
      refine wp_region_L (S := fun _ W => Cs [(⟨w.heap.size, 0, none⟩, .bool b1), (⟨w.heap.size, 1, none⟩, .slice a1 lm c1), (⟨w.heap.size + 1, 0, none⟩, .bool b2), (⟨w.heap.size + 1, 1, none⟩, .slice a2 ln c2)] W) (by kernel_rfl) ?_
      refine wpAnyL_take (T := fun _ => True) (i := 0) (v := ?vvpb0) rfl (by kernel_rfl) (by kernel_rfl) (by kernel_rfl) (fun _ _ _ h => h) (fun _ _ => Iff.rfl) (fun _ _ _ _ _ => trivial) (Closed.of_B (by kernel_rfl)) (Or.inl ⟨by kernel_rfl, ?hypb0⟩) (HCS.out _ h1 h2) ?restpb0
      case hypb0 => (intro w _; go_simp; with_reducible rfl)
      go_simp
      refine wpAnyL_take (T := fun W => Cs [(⟨w.heap.size, 0, none⟩, .bool b1), (⟨w.heap.size, 1, none⟩, .slice a1 lm c1), (⟨w.heap.size + 1, 0, none⟩, .bool b2), (⟨w.heap.size + 1, 1, none⟩, .slice a2 ln c2)] W) (i := 1) (v := ?vvpb1) rfl (by kernel_rfl) (by kernel_rfl) (by kernel_rfl) (fun _ _ _ h => h) (fun _ _ => Iff.rfl) (fun _ _ _ _ h => h) (Closed.of_B (by kernel_rfl)) (Or.inl ⟨by kernel_rfl, ?hypb1⟩) (HCS.out _ h1 h2) ?restpb1
      case hypb1 => (intro W hW; simp only [Cs, List.forall_mem_cons] at hW; obtain ⟨m0, m1, m2, m3, -⟩ := hW; go_simp; with_reducible rfl)
      go_simp
      refine wpAnyL_take (T := fun _ => True) (i := 2) (v := ?vvpb2) rfl (by kernel_rfl) (by kernel_rfl) (by kernel_rfl) (fun _ _ _ h => h) (fun _ _ => Iff.rfl) (fun _ _ _ _ _ => trivial) (Closed.of_B (by kernel_rfl)) (Or.inl ⟨by kernel_rfl, ?hypb2⟩) (HCS.out _ h1 h2) ?restpb2
      case hypb2 => (intro w _; go_simp; with_reducible rfl)
      go_simp
      refine wpAnyL_take (T := fun W => Cs [(⟨w.heap.size, 0, none⟩, .bool b1), (⟨w.heap.size, 1, none⟩, .slice a1 lm c1), (⟨w.heap.size + 1, 0, none⟩, .bool b2), (⟨w.heap.size + 1, 1, none⟩, .slice a2 ln c2)] W) (i := 3) (v := ?vvpb3) rfl (by kernel_rfl) (by kernel_rfl) (by kernel_rfl) (fun _ _ _ h => h) (fun _ _ => Iff.rfl) (fun _ _ _ _ h => h) (Closed.of_B (by kernel_rfl)) (Or.inl ⟨by kernel_rfl, ?hypb3⟩) (HCS.out _ h1 h2) ?restpb3
      case hypb3 => (intro W hW; simp only [Cs, List.forall_mem_cons] at hW; obtain ⟨m0, m1, m2, m3, -⟩ := hW; go_simp; with_reducible rfl)
      go_simp
      refine wpAnyL_take (T := fun _ => True) (i := 4) (v := ?vvpb4) rfl (by kernel_rfl) (by kernel_rfl) (by kernel_rfl) (fun _ _ _ h => h) (fun _ _ => Iff.rfl) (fun _ _ _ _ _ => trivial) (Closed.of_B (by kernel_rfl)) (Or.inl ⟨by kernel_rfl, ?hypb4⟩) (HCS.out _ h1 h2) ?restpb4
      case hypb4 => (intro w _; go_simp; with_reducible rfl)
      go_simp
      refine wpAnyL_take (T := fun W => Cs [(⟨w.heap.size, 0, none⟩, .bool b1), (⟨w.heap.size, 1, none⟩, .slice a1 lm c1), (⟨w.heap.size + 1, 0, none⟩, .bool b2), (⟨w.heap.size + 1, 1, none⟩, .slice a2 ln c2)] W) (i := 5) (v := ?vvpb5) rfl (by kernel_rfl) (by kernel_rfl) (by kernel_rfl) (fun _ _ _ h => h) (fun _ _ => Iff.rfl) (fun _ _ _ _ h => h) (Closed.of_B (by kernel_rfl)) (Or.inl ⟨by kernel_rfl, ?hypb5⟩) (HCS.out _ h1 h2) ?restpb5
      case hypb5 => (intro W hW; simp only [Cs, List.forall_mem_cons] at hW; obtain ⟨m0, m1, m2, m3, -⟩ := hW; go_simp; with_reducible rfl)
      go_simp
      refine wpAnyL_ready (rs := [6]) (by kernel_rfl) (by simp) ?_
      refine AllL.cons rfl (by kernel_rfl) (fun K hK => ?_) AllL.nil
      go_simp
      refine (HM1.out hge w5.drew hbd).mono ?_
      rintro e w2 ⟨v', rfl, hN, hb2⟩
      have hb := ext_trans hbd hb2
      replace h1 := (hb2.block _ (box_lt h1)).trans h1
      replace h2 := (hb2.block _ (box_lt h2)).trans h2
      replace h3 := (hb2.block _ (box_lt h3)).trans h3
      refine hK _ _ ⟨HCS.out _ h1 h2, ?_⟩
      clear hK K
      have HN := Lib.hid hN
      obtain ⟨a3, c3, rfl⟩ := hN.slice
      generalize (dig (m - n)).length = l3 at *
      clear hN
      refine wpAnyL_take (T := fun _ => True) (i := 7) (v := ?vvpbq7) rfl (by kernel_rfl) (by kernel_rfl) (by kernel_rfl) (fun _ _ _ h => h) (fun _ _ => Iff.rfl) (fun _ _ _ _ _ => trivial) (Closed.of_B (by kernel_rfl)) (Or.inl ⟨by kernel_rfl, ?hypbq7⟩) (HCS.out _ h1 h2) ?restpbq7
      case hypbq7 => (intro w _; go_simp; with_reducible rfl)
      go_simp
      have g0 := box_cell h3 0
      have g1 := box_cell h3 1
      have f0 := box_frozen h3 0
      have f1 := box_frozen h3 1
      simp only [List.getElem?_toArray, List.getElem?_cons_zero, List.getElem?_cons_succ] at g0 g1
      have hfin : NatAt ((w2.setCell ⟨w.heap.size + 1 + 1, 0, none⟩ (.bool b1)).setCell ⟨w.heap.size + 1 + 1, 1, none⟩ (.slice a3 l3 c3)) (.slice a3 l3 c3) (m - n) := natAt_set h3 HN.out b1 _
      have hset := intBox_set h3 b1 (.slice a3 l3 c3)
      have k1 := boxes_keep h1 (show w.heap.size ≠ w.heap.size + 1 + 1 by omega) (.bool b1) (.slice a3 l3 c3)
      have k2 := boxes_keep h2 (show w.heap.size + 1 ≠ w.heap.size + 1 + 1 by omega) (.bool b1) (.slice a3 l3 c3)
      have HBL := Lib.hid ((hb.setCell (p := ⟨w.heap.size + 1 + 1, 0, none⟩) hle (.bool b1)).setCell (p := ⟨w.heap.size + 1 + 1, 1, none⟩) hle (.slice a3 l3 c3))
      have t0 := box_cell hset 0
      have t1 := box_cell hset 1
      simp only [List.getElem?_toArray, List.getElem?_cons_zero, List.getElem?_cons_succ] at t0 t1
      have HQ := Lib.hid (show IntAt ((w2.setCell ⟨w.heap.size + 1 + 1, 0, none⟩ (.bool b1)).setCell ⟨w.heap.size + 1 + 1, 1, none⟩ (.slice a3 l3 c3)) (.agg #[.bool b1, .slice a3 l3 c3]) (ZI b1 m + ZI b2 n) from ⟨_, _, m - n, rfl, hfin, ZI_less HNE.out hge⟩)
      clear hfin
      refine wpAnyL_ready (rs := [8]) (by kernel_rfl) (by simp) ?_
      refine AllL.cons rfl (by kernel_rfl) (fun K hK => ?_) AllL.nil
      go_simp
      refine hK _ _ ⟨HCS.out _ k1 k2, ?_⟩
      clear hK K
      refine wpAnyL_done (by kernel_rfl) ?_ _
      refine NoPanic.normal ?_
      go_wp2
      refine bodyPost_ret (v := .agg #[.bool b1, .slice a3 l3 c3]) (by simp [results, Tryd.results48, go_sem, t0, t1]) rfl ?_
      exact ⟨_, rfl, HQ.out, HBL.out⟩
    · have hcm : ¬ (cmpN m n ≥ 0) := by unfold cmpN; rw [if_pos (by omega)]; omega
      generalize cmpN m n = cm at *
      go_upto_region 5 with fail
      refine wp_region_noPanic ?_
      refine wp_region_L (S := fun _ W => Cs [(⟨w.heap.size, 0, none⟩, .bool b1), (⟨w.heap.size, 1, none⟩, .slice a1 lm c1), (⟨w.heap.size + 1, 0, none⟩, .bool b2), (⟨w.heap.size + 1, 1, none⟩, .slice a2 ln c2)] W) (by kernel_rfl) ?_
      refine wpAnyL_take (T := fun _ => True) (i := 0) (v := ?vvpc0) rfl (by kernel_rfl) (by kernel_rfl) (by kernel_rfl) (fun _ _ _ h => h) (fun _ _ => Iff.rfl) (fun _ _ _ _ _ => trivial) (Closed.of_B (by kernel_rfl)) (Or.inl ⟨by kernel_rfl, ?hypc0⟩) (HCS.out _ h1 h2) ?restpc0
      case hypc0 => (intro w _; go_simp; with_reducible rfl)
      go_simp
      refine wpAnyL_take (T := fun W => Cs [(⟨w.heap.size, 0, none⟩, .bool b1), (⟨w.heap.size, 1, none⟩, .slice a1 lm c1), (⟨w.heap.size + 1, 0, none⟩, .bool b2), (⟨w.heap.size + 1, 1, none⟩, .slice a2 ln c2)] W) (i := 1) (v := ?vvpc1) rfl (by kernel_rfl) (by kernel_rfl) (by kernel_rfl) (fun _ _ _ h => h) (fun _ _ => Iff.rfl) (fun _ _ _ _ h => h) (Closed.of_B (by kernel_rfl)) (Or.inl ⟨by kernel_rfl, ?hypc1⟩) (HCS.out _ h1 h2) ?restpc1
      case hypc1 => (intro W hW; simp only [Cs, List.forall_mem_cons] at hW; obtain ⟨m0, m1, m2, m3, -⟩ := hW; go_simp; with_reducible rfl)
      go_simp
      refine wpAnyL_take (T := fun _ => True) (i := 2) (v := ?vvpc2) rfl (by kernel_rfl) (by kernel_rfl) (by kernel_rfl) (fun _ _ _ h => h) (fun _ _ => Iff.rfl) (fun _ _ _ _ _ => trivial) (Closed.of_B (by kernel_rfl)) (Or.inl ⟨by kernel_rfl, ?hypc2⟩) (HCS.out _ h1 h2) ?restpc2
      case hypc2 => (intro w _; go_simp; with_reducible rfl)
      go_simp
      refine wpAnyL_take (T := fun W => Cs [(⟨w.heap.size, 0, none⟩, .bool b1), (⟨w.heap.size, 1, none⟩, .slice a1 lm c1), (⟨w.heap.size + 1, 0, none⟩, .bool b2), (⟨w.heap.size + 1, 1, none⟩, .slice a2 ln c2)] W) (i := 3) (v := ?vvpc3) rfl (by kernel_rfl) (by kernel_rfl) (by kernel_rfl) (fun _ _ _ h => h) (fun _ _ => Iff.rfl) (fun _ _ _ _ h => h) (Closed.of_B (by kernel_rfl)) (Or.inl ⟨by kernel_rfl, ?hypc3⟩) (HCS.out _ h1 h2) ?restpc3
      case hypc3 => (intro W hW; simp only [Cs, List.forall_mem_cons] at hW; obtain ⟨m0, m1, m2, m3, -⟩ := hW; go_simp; with_reducible rfl)
      go_simp
      refine wpAnyL_take (T := fun _ => True) (i := 4) (v := ?vvpc4) rfl (by kernel_rfl) (by kernel_rfl) (by kernel_rfl) (fun _ _ _ h => h) (fun _ _ => Iff.rfl) (fun _ _ _ _ _ => trivial) (Closed.of_B (by kernel_rfl)) (Or.inl ⟨by kernel_rfl, ?hypc4⟩) (HCS.out _ h1 h2) ?restpc4
      case hypc4 => (intro w _; go_simp; with_reducible rfl)
      go_simp
      refine wpAnyL_take (T := fun W => Cs [(⟨w.heap.size, 0, none⟩, .bool b1), (⟨w.heap.size, 1, none⟩, .slice a1 lm c1), (⟨w.heap.size + 1, 0, none⟩, .bool b2), (⟨w.heap.size + 1, 1, none⟩, .slice a2 ln c2)] W) (i := 5) (v := ?vvpc5) rfl (by kernel_rfl) (by kernel_rfl) (by kernel_rfl) (fun _ _ _ h => h) (fun _ _ => Iff.rfl) (fun _ _ _ _ h => h) (Closed.of_B (by kernel_rfl)) (Or.inl ⟨by kernel_rfl, ?hypc5⟩) (HCS.out _ h1 h2) ?restpc5
      case hypc5 => (intro W hW; simp only [Cs, List.forall_mem_cons] at hW; obtain ⟨m0, m1, m2, m3, -⟩ := hW; go_simp; with_reducible rfl)
      go_simp
      refine wpAnyL_ready (rs := [6]) (by kernel_rfl) (by simp) ?_
      refine AllL.cons rfl (by kernel_rfl) (fun K hK => ?_) AllL.nil
      go_simp
      refine (HM2.out (by omega) w5.drew hbd).mono ?_
      rintro e w2 ⟨v', rfl, hN, hb2⟩
      have hb := ext_trans hbd hb2
      replace h1 := (hb2.block _ (box_lt h1)).trans h1
      replace h2 := (hb2.block _ (box_lt h2)).trans h2
      replace h3 := (hb2.block _ (box_lt h3)).trans h3
      refine hK _ _ ⟨HCS.out _ h1 h2, ?_⟩
      clear hK K
      have HN := Lib.hid hN
      obtain ⟨a3, c3, rfl⟩ := hN.slice
      generalize (dig (n - m)).length = l3 at *
      clear hN
      refine wpAnyL_take (T := fun _ => True) (i := 7) (v := ?vvpcq7) rfl (by kernel_rfl) (by kernel_rfl) (by kernel_rfl) (fun _ _ _ h => h) (fun _ _ => Iff.rfl) (fun _ _ _ _ _ => trivial) (Closed.of_B (by kernel_rfl)) (Or.inl ⟨by kernel_rfl, ?hypcq7⟩) (HCS.out _ h1 h2) ?restpcq7
      case hypcq7 => (intro w _; go_simp; with_reducible rfl)
      go_simp
      have g0 := box_cell h3 0
      have g1 := box_cell h3 1
      have f0 := box_frozen h3 0
      have f1 := box_frozen h3 1
      simp only [List.getElem?_toArray, List.getElem?_cons_zero, List.getElem?_cons_succ] at g0 g1
      have hfin : NatAt ((w2.setCell ⟨w.heap.size + 1 + 1, 0, none⟩ (.bool b2)).setCell ⟨w.heap.size + 1 + 1, 1, none⟩ (.slice a3 l3 c3)) (.slice a3 l3 c3) (n - m) := natAt_set h3 HN.out b2 _
      have hset := intBox_set h3 b2 (.slice a3 l3 c3)
      have k1 := boxes_keep h1 (show w.heap.size ≠ w.heap.size + 1 + 1 by omega) (.bool b2) (.slice a3 l3 c3)
      have k2 := boxes_keep h2 (show w.heap.size + 1 ≠ w.heap.size + 1 + 1 by omega) (.bool b2) (.slice a3 l3 c3)
      have HBL := Lib.hid ((hb.setCell (p := ⟨w.heap.size + 1 + 1, 0, none⟩) hle (.bool b2)).setCell (p := ⟨w.heap.size + 1 + 1, 1, none⟩) hle (.slice a3 l3 c3))
      have t0 := box_cell hset 0
      have t1 := box_cell hset 1
      simp only [List.getElem?_toArray, List.getElem?_cons_zero, List.getElem?_cons_succ] at t0 t1
      have HQ := Lib.hid (show IntAt ((w2.setCell ⟨w.heap.size + 1 + 1, 0, none⟩ (.bool b2)).setCell ⟨w.heap.size + 1 + 1, 1, none⟩ (.slice a3 l3 c3)) (.agg #[.bool b2, .slice a3 l3 c3]) (ZI b1 m + ZI b2 n) from ⟨_, _, n - m, rfl, hfin, by rw [Int.add_comm]; exact ZI_less (Ne.symm HNE.out) (by omega)⟩)
      clear hfin
      refine wpAnyL_ready (rs := [8]) (by kernel_rfl) (by simp) ?_
      refine AllL.cons rfl (by kernel_rfl) (fun K hK => ?_) AllL.nil
      go_simp
      refine hK _ _ ⟨HCS.out _ k1 k2, ?_⟩
      clear hK K
      refine wpAnyL_done (by kernel_rfl) ?_ _
      refine NoPanic.normal ?_
      go_wp2
      refine bodyPost_ret (v := .agg #[.bool b2, .slice a3 l3 c3]) (by simp [results, Tryd.results48, go_sem, t0, t1]) rfl ?_
      exact ⟨_, rfl, HQ.out, HBL.out⟩
end Go.Proofs.YtpmadgmjkljbgaaDoor

/- Walk: IntOf (brindlewoodref3). -/
namespace Go.Proofs.YtpmadgmjkljbgaaDoor
open Go.RowKit

set_option maxRecDepth 100000 in
set_option maxHeartbeats 2000000 in
theorem IntOf_any (b1 : Bool) (lv : Value) (l : List Nat) (w : World) (hv : RowU w lv l) (hg : Lg l) (hn : l.length ≤ 100000) :
    Calls Tryd.prog 34 #[.agg #[.bool b1, lv]] w fun e w' => ∃ v', e = .returned v' ∧ IntAt w' v' (ZI b1 (VL l)) ∧ Below w.heap.size w w' := by
  have HO := Lib.hid (fun W (h : Below w.heap.size w W) => Of_any lv l W (hv.below h) hg hn)
  obtain ⟨a1, c1, rfl, -⟩ := hv
  have hal := alloc2 w (.cells #[.bool b1, .slice a1 l.length c1] 24) (.cells #[.bool false, .slice none 0 0] 41)
  go_enter Tryd.func34, Tryd.ntmps34
  go_upto_region 1 with fail
  generalize ((w.alloc (.cells #[.bool b1, .slice a1 l.length c1] 24)).alloc (.cells #[.bool false, .slice none 0 0] 41)) = w1 at *
  obtain ⟨hb1, h1, h3⟩ := hal
  have hcs : ∀ W : World, W.heap[w.heap.size]? = some (.cells #[.bool b1, .slice a1 l.length c1] 24) → Cs [(⟨w.heap.size, 0, none⟩, .bool b1), (⟨w.heap.size, 1, none⟩, .slice a1 l.length c1)] W := by
    intro W k1
    have d0 := box_cell k1 0
    have d1 := box_cell k1 1
    simp only [List.getElem?_toArray, List.getElem?_cons_zero, List.getElem?_cons_succ] at d0 d1
    intro x hx
    simp only [List.mem_cons, List.not_mem_nil, or_false] at hx
    rcases hx with rfl | rfl
    · exact d0
    · exact d1
  have HCS := Lib.hid hcs
  clear hcs hg
  have hbd := hb1.drew
  have hle : w.heap.size ≤ w.heap.size + 1 := by omega
  refine wp_region_noPanic ?_
  refine wp_region_L (S := fun _ W => Cs [(⟨w.heap.size, 0, none⟩, .bool b1), (⟨w.heap.size, 1, none⟩, .slice a1 l.length c1)] W) (by kernel_rfl) ?_
  refine wpAnyL_take (T := fun _ => True) (i := 0) (v := ?vvia0) rfl (by kernel_rfl) (by kernel_rfl) (by kernel_rfl) (fun _ _ _ h => h) (fun _ _ => Iff.rfl) (fun _ _ _ _ _ => trivial) (Closed.of_B (by kernel_rfl)) (Or.inl ⟨by kernel_rfl, ?hyia0⟩) (HCS.out _ h1) ?restia0
  case hyia0 => (intro w _; go_simp; with_reducible rfl)
  go_simp
  refine wpAnyL_take (T := fun W => Cs [(⟨w.heap.size, 0, none⟩, .bool b1), (⟨w.heap.size, 1, none⟩, .slice a1 l.length c1)] W) (i := 1) (v := ?vvia1) rfl (by kernel_rfl) (by kernel_rfl) (by kernel_rfl) (fun _ _ _ h => h) (fun _ _ => Iff.rfl) (fun _ _ _ _ h => h) (Closed.of_B (by kernel_rfl)) (Or.inl ⟨by kernel_rfl, ?hyia1⟩) (HCS.out _ h1) ?restia1
  case hyia1 => (intro W hW; simp only [Cs, List.forall_mem_cons] at hW; obtain ⟨m0, m1, -⟩ := hW; go_simp; with_reducible rfl)
  go_simp
  refine wpAnyL_take (T := fun _ => True) (i := 2) (v := ?vvia2) rfl (by kernel_rfl) (by kernel_rfl) (by kernel_rfl) (fun _ _ _ h => h) (fun _ _ => Iff.rfl) (fun _ _ _ _ _ => trivial) (Closed.of_B (by kernel_rfl)) (Or.inl ⟨by kernel_rfl, ?hyia2⟩) (HCS.out _ h1) ?restia2
  case hyia2 => (intro w _; go_simp; with_reducible rfl)
  go_simp
  refine wpAnyL_take (T := fun W => Cs [(⟨w.heap.size, 0, none⟩, .bool b1), (⟨w.heap.size, 1, none⟩, .slice a1 l.length c1)] W) (i := 3) (v := ?vvia3) rfl (by kernel_rfl) (by kernel_rfl) (by kernel_rfl) (fun _ _ _ h => h) (fun _ _ => Iff.rfl) (fun _ _ _ _ h => h) (Closed.of_B (by kernel_rfl)) (Or.inl ⟨by kernel_rfl, ?hyia3⟩) (HCS.out _ h1) ?restia3
  case hyia3 => (intro W hW; simp only [Cs, List.forall_mem_cons] at hW; obtain ⟨m0, m1, -⟩ := hW; go_simp; with_reducible rfl)
  go_simp
  refine wpAnyL_ready (rs := [4]) (by kernel_rfl) (by simp) ?_
  refine AllL.cons rfl (by kernel_rfl) (fun K hK => ?_) AllL.nil
  go_simp
  refine (HO.out w1.drew hbd).mono ?_
  rintro e w2 ⟨v', rfl, hN, hb2⟩
  have hb := ext_trans hbd hb2
  replace h1 := (hb2.block _ (box_lt h1)).trans h1
  replace h3 := (hb2.block _ (box_lt h3)).trans h3
  refine hK _ _ ⟨HCS.out _ h1, ?_⟩
  clear hK K
  have HN := Lib.hid hN
  obtain ⟨a3, c3, rfl⟩ := hN.slice
  generalize (dig (VL l)).length = l3 at *
  clear hN
  refine wpAnyL_take (T := fun _ => True) (i := 5) (v := ?vviaq5) rfl (by kernel_rfl) (by kernel_rfl) (by kernel_rfl) (fun _ _ _ h => h) (fun _ _ => Iff.rfl) (fun _ _ _ _ _ => trivial) (Closed.of_B (by kernel_rfl)) (Or.inl ⟨by kernel_rfl, ?hyiaq5⟩) (HCS.out _ h1) ?restiaq5
  case hyiaq5 => (intro w _; go_simp; with_reducible rfl)
  go_simp
  have g0 := box_cell h3 0
  have g1 := box_cell h3 1
  have f0 := box_frozen h3 0
  have f1 := box_frozen h3 1
  simp only [List.getElem?_toArray, List.getElem?_cons_zero, List.getElem?_cons_succ] at g0 g1
  have hfin : NatAt ((w2.setCell ⟨w.heap.size + 1, 0, none⟩ (.bool b1)).setCell ⟨w.heap.size + 1, 1, none⟩ (.slice a3 l3 c3)) (.slice a3 l3 c3) (VL l) := natAt_set h3 HN.out b1 _
  have hset := intBox_set h3 b1 (.slice a3 l3 c3)
  have k1 := boxes_keep h1 (show w.heap.size ≠ w.heap.size + 1 by omega) (.bool b1) (.slice a3 l3 c3)
  have HBL := Lib.hid ((hb.setCell (p := ⟨w.heap.size + 1, 0, none⟩) hle (.bool b1)).setCell (p := ⟨w.heap.size + 1, 1, none⟩) hle (.slice a3 l3 c3))
  have t0 := box_cell hset 0
  have t1 := box_cell hset 1
  simp only [List.getElem?_toArray, List.getElem?_cons_zero, List.getElem?_cons_succ] at t0 t1
  have HQ := Lib.hid (show IntAt ((w2.setCell ⟨w.heap.size + 1, 0, none⟩ (.bool b1)).setCell ⟨w.heap.size + 1, 1, none⟩ (.slice a3 l3 c3)) (.agg #[.bool b1, .slice a3 l3 c3]) (ZI b1 (VL l)) from ⟨_, _, VL l, rfl, hfin, rfl⟩)
  clear hfin
  refine wpAnyL_ready (rs := [6]) (by kernel_rfl) (by simp) ?_
  refine AllL.cons rfl (by kernel_rfl) (fun K hK => ?_) AllL.nil
  go_simp
  refine hK _ _ ⟨HCS.out _ k1, ?_⟩
  clear hK K
  refine wpAnyL_done (by kernel_rfl) ?_ _
  refine NoPanic.normal ?_
  go_wp2
  refine bodyPost_ret (v := .agg #[.bool b1, .slice a3 l3 c3]) (by simp [results, Tryd.results34, go_sem, t0, t1]) rfl ?_
  exact ⟨_, rfl, HQ.out, HBL.out⟩
end Go.Proofs.YtpmadgmjkljbgaaDoor

/- Ratios as the document writes them: pairs in lowest terms; the floor of a ratio. Plain law. -/
namespace Go.Proofs.YtpmadgmjkljbgaaDoor

def lowG (z : Int) (d : Nat) : Nat := Nat.gcd z.natAbs d
def lowZ (z : Int) (d : Nat) : Int := z / (lowG z d : Int)
def lowD (z : Int) (d : Nat) : Nat := d / lowG z d
theorem lowG_pos {z : Int} {d : Nat} (h : 0 < d) : 0 < lowG z d := Nat.gcd_pos_of_pos_right _ h
theorem lowG_one (z : Int) : lowG z 1 = 1 := Nat.gcd_one_right _
theorem lowZ_one (z : Int) : lowZ z 1 = z := by unfold lowZ; rw [lowG_one]; simp
theorem lowD_one (z : Int) : lowD z 1 = 1 := by unfold lowD; rw [lowG_one]
theorem lowG_ZI (b : Bool) (m d : Nat) : lowG (ZI b m) d = Nat.gcd m d := by unfold lowG; rw [ZI_abs]
theorem ZI_div (b : Bool) {m g : Nat} (h : g ∣ m) : ZI b (m / g) = ZI b m / (g : Int) := by
  obtain ⟨k, rfl⟩ := h
  rcases Nat.eq_zero_or_pos g with rfl | hg
  · cases b <;> unfold ZI <;> simp
  · rw [Nat.mul_div_cancel_left _ hg]
    have hg' : (g : Int) ≠ 0 := by omega
    cases b <;> unfold ZI <;> simp
    · rw [Int.mul_ediv_cancel_left _ hg']
    · rw [show -((g : Int) * (k : Int)) = (g : Int) * (-(k : Int)) by rw [Int.mul_neg], Int.mul_ediv_cancel_left _ hg']
theorem lowZ_ZI (b : Bool) (m d : Nat) : ZI b (m / Nat.gcd m d) = lowZ (ZI b m) d := by
  unfold lowZ
  rw [lowG_ZI, ZI_div b (Nat.gcd_dvd_left m d)]
theorem lowD_ZI (b : Bool) (m d : Nat) : d / Nat.gcd m d = lowD (ZI b m) d := by unfold lowD; rw [lowG_ZI]
theorem lowD_pos {z : Int} {d : Nat} (h : 0 < d) : 0 < lowD z d := Nat.div_pos (Nat.gcd_le_right _ h) (lowG_pos h)
/-- Lowest terms do not change the floor. -/
theorem low_floor {z : Int} {d : Nat} (h : 0 < d) : lowZ z d / (lowD z d : Int) = z / (d : Int) := by
  obtain ⟨p, hp⟩ : (lowG z d : Int) ∣ z := by
    have := Nat.gcd_dvd_left z.natAbs d
    exact Int.ofNat_dvd_left.2 this
  obtain ⟨q, hq⟩ := Nat.gcd_dvd_right z.natAbs d
  have hg : 0 < lowG z d := lowG_pos h
  have e1 : lowZ z d = p := by
    unfold lowZ
    conv => lhs; arg 1; rw [hp]
    exact Int.mul_ediv_cancel_left _ (by omega)
  have hq' : d = lowG z d * q := hq
  have e2 : lowD z d = q := by
    unfold lowD
    conv => lhs; arg 1; rw [hq']
    exact Nat.mul_div_cancel_left _ hg
  rw [e1, e2]
  have e3 : z / (d : Int) = (lowG z d * p) / (lowG z d * q : Int) := by
    rw [← hp]
    congr 1
    conv => lhs; rw [hq']
    rw [Int.natCast_mul]
  rw [e3, Int.mul_ediv_mul_of_pos _ _ (by omega)]

/-- The floor of a quotient, by way of a turned divisor. -/
theorem floor_turned {x y : Int} (hy : y ≠ 0) : (x * (if y < 0 then -1 else 1)) / ((y.natAbs : Nat) : Int) = Int.fdiv x y := by
  by_cases h : y < 0
  · rw [if_pos h]
    obtain ⟨n, rfl⟩ : ∃ n : Nat, y = -(n : Int) := ⟨y.natAbs, by omega⟩
    have hn : 0 < n := by omega
    rw [Int.natAbs_neg, Int.natAbs_natCast, ← Int.fdiv_eq_ediv_of_nonneg _ (by omega), show x * -1 = -x by omega]
    rw [← Int.neg_fdiv_neg x]
    simp
  · rw [if_neg h]
    obtain ⟨n, rfl⟩ : ∃ n : Nat, y = (n : Int) := ⟨y.natAbs, by omega⟩
    rw [Int.natAbs_natCast, Int.mul_one, Int.fdiv_eq_ediv_of_nonneg _ (by omega)]
theorem floor_unique {x y q r : Int} (h : r + y * q = x) (hr : (0 < y ∧ 0 ≤ r ∧ r < y) ∨ (y < 0 ∧ r ≤ 0 ∧ y < r)) : Int.fdiv x y = q := by
  rcases hr with ⟨h0, h1, h2⟩ | ⟨h0, h1, h2⟩
  · rw [Int.fdiv_eq_ediv_of_nonneg _ (by omega)]
    exact ((Int.ediv_emod_unique h0).2 ⟨h, h1, h2⟩).1
  · have e : Int.fdiv x y = Int.fdiv (-x) (-y) := by simp
    rw [e, Int.fdiv_eq_ediv_of_nonneg _ (by omega)]
    refine ((Int.ediv_emod_unique (r := -r) (by omega)).2 ⟨?_, by omega, by omega⟩).1
    rw [Int.neg_mul]; omega
/-- Go's quotient and rest, moved to the floor. -/
theorem go_floor {x y : Int} (hy : y ≠ 0) : (if Int.tmod x y ≠ 0 ∧ ((Int.tmod x y < 0) ≠ (y < 0)) then Int.tdiv x y - 1 else Int.tdiv x y) = Int.fdiv x y ∧
    (if Int.tmod x y ≠ 0 ∧ ((Int.tmod x y < 0) ≠ (y < 0)) then Int.tmod x y + y else Int.tmod x y) = x - Int.fdiv x y * y := by
  have e := Int.tmod_add_mul_tdiv x y
  have b1 : -(y.natAbs : Int) < Int.tmod x y ∧ Int.tmod x y < (y.natAbs : Int) := by
    rcases Int.lt_or_lt_of_ne hy with h | h
    · have e1 : Int.tmod x y = Int.tmod x (-y) := by rw [Int.tmod_neg]
      rw [e1]
      have h1 := Int.tmod_lt_of_pos x (show 0 < -y by omega)
      have h2 := Int.lt_tmod_of_pos x (show 0 < -y by omega)
      omega
    · have h1 := Int.tmod_lt_of_pos x h
      have h2 := Int.lt_tmod_of_pos x h
      omega
  generalize Int.tmod x y = r at *
  generalize Int.tdiv x y = q at *
  have key : (if r ≠ 0 ∧ ((r < 0) ≠ (y < 0)) then q - 1 else q) = Int.fdiv x y := by
    symm
    split
    · next h =>
      have hne : ¬ ((r < 0) ↔ (y < 0)) := fun hh => h.2 (propext hh)
      refine floor_unique (r := r + y) ?_ (by omega)
      rw [Int.mul_sub]; omega
    · next h =>
      refine floor_unique (r := r) e ?_
      by_cases h0 : r = 0
      · omega
      · have hh : (r < 0) = (y < 0) := by
          rcases Classical.em ((r < 0) = (y < 0)) with h1 | h1
          · exact h1
          · exact absurd ⟨h0, h1⟩ h
        have h2 : (r < 0) ↔ (y < 0) := by rw [hh]
        omega
  refine ⟨key, ?_⟩
  rw [← key]
  split
  · rw [Int.sub_mul, Int.one_mul, Int.mul_comm]; omega
  · rw [Int.mul_comm]; omega
end Go.Proofs.YtpmadgmjkljbgaaDoor

/- Walks: Zero, Negative (brindlewoodref7); Ratio.Lowest (brindlewoodref3). -/
namespace Go.Proofs.YtpmadgmjkljbgaaDoor
open Go.RowKit

theorem ZI_zero (b : Bool) (m : Nat) : ZI b m = 0 ↔ m = 0 := by cases b <;> unfold ZI <;> simp
theorem ZI_lt (b : Bool) (m : Nat) : ZI b m < 0 ↔ b = true ∧ 0 < m := by cases b <;> unfold ZI <;> simp <;> omega

set_option maxRecDepth 100000 in
set_option maxHeartbeats 1000000 in
theorem Zero_any (xv : Value) (x : Int) (w : World) (hx : IntAt w xv x) :
    Calls Tryd.prog 25 #[xv] w fun e w' => e = .returned (.bool (decide (x = 0))) ∧ Below w.heap.size w w' := by
  obtain ⟨b1, v1, m, rfl, hm, rfl⟩ := hx
  obtain ⟨a1, c1, rfl⟩ := hm.slice
  have HR := Lib.hid (show (((dig m).length : Int) == 0) = decide (ZI b1 m = 0) by
    rw [Bool.eq_iff_iff, beq_iff_eq, decide_eq_true_eq, ZI_zero, ← dig_eq_nil, ← List.length_eq_zero_iff]; omega)
  clear hm
  generalize (dig m).length = lm at *
  have hb := ext_alloc w (.cells #[.bool b1, .slice a1 lm c1] 41)
  have h1 := heap_new w (.cells #[.bool b1, .slice a1 lm c1] 41)
  go_enter Tryd.func25, Tryd.ntmps25
  go_upto_region 1 with fail
  generalize (w.alloc (.cells #[.bool b1, .slice a1 lm c1] 41)) = w2 at *
  have d1 := box_cell h1 1
  simp only [List.getElem?_toArray, List.getElem?_cons_zero, List.getElem?_cons_succ] at d1
  go_wp2
  go_ret
  exact ⟨ret_bool HR.out, hb⟩

set_option maxRecDepth 100000 in
set_option maxHeartbeats 1000000 in
theorem Negative_any (xv : Value) (x : Int) (w : World) (hx : IntAt w xv x) :
    Calls Tryd.prog 53 #[xv] w fun e w' => e = .returned (.bool (decide (x < 0))) ∧ Below w.heap.size w w' := by
  obtain ⟨b1, v1, m, rfl, hm, rfl⟩ := hx
  obtain ⟨a1, c1, rfl⟩ := hm.slice
  have HL := Lib.hid (show (0 < (dig m).length) ↔ 0 < m by rw [List.length_pos_iff, Ne, dig_eq_nil]; omega)
  clear hm
  generalize (dig m).length = lm at *
  have hb := ext_alloc w (.cells #[.bool b1, .slice a1 lm c1] 41)
  have h1 := heap_new w (.cells #[.bool b1, .slice a1 lm c1] 41)
  go_enter Tryd.func53, Tryd.ntmps53
  go_upto_region 1 with fail
  generalize (w.alloc (.cells #[.bool b1, .slice a1 lm c1] 41)) = w2 at *
  have d0 := box_cell h1 0
  have d1 := box_cell h1 1
  simp only [List.getElem?_toArray, List.getElem?_cons_zero, List.getElem?_cons_succ] at d0 d1
  cases b1 with
  | true =>
    have HR := Lib.hid (show decide (0 < lm) = decide (ZI true m < 0) by rw [decide_eq_decide, ZI_lt, HL.out]; simp)
    go_wp2
    go_ret
    exact ⟨ret_bool HR.out, hb⟩
  | false =>
    have HR := Lib.hid (show false = decide (ZI false m < 0) by symm; rw [decide_eq_false_iff_not, ZI_lt]; simp)
    go_wp2
    go_ret
    exact ⟨ret_bool HR.out, hb⟩
end Go.Proofs.YtpmadgmjkljbgaaDoor

/- Walk: Ratio.Lowest (brindlewoodref3). -/
namespace Go.Proofs.YtpmadgmjkljbgaaDoor
open Go.RowKit

/-- A ratio of the document: numerator and denominator as they stand. -/
def RatAt (w : World) (v : Value) (z : Int) (d : Nat) : Prop := ∃ (b : Bool) (nv dv : Value) (n : Nat), v = .agg #[.bool b, nv, dv] ∧ NatAt w nv n ∧ NatAt w dv d ∧ ZI b n = z
theorem RatAt.below {w w' : World} {v : Value} {z : Int} {d : Nat} (h : RatAt w v z d) (hb : Below w.heap.size w w') : RatAt w' v z d := by
  obtain ⟨b, nv, dv, n, rfl, hn, hd, hz⟩ := h
  exact ⟨b, nv, dv, n, rfl, hn.below hb, hd.below hb, hz⟩
theorem rowN_box3 {w : World} {N : Nat} {b : Bool} {a a' : Option Addr} {n c n' c' : Nat} {t : TypeId} (h : w.heap[N]? = some (.cells #[.bool b, .slice a n c, .slice a' n' c'] t (0, 0))) {v : Value} {L : List Nat} (hr : RowN w v L) (j : Nat) (u : Value) : RowN (w.setCell ⟨N, j, none⟩ u) v L := by
  obtain ⟨a0, cap, rfl, hl, hm, hc⟩ := hr
  refine ⟨a0, cap, rfl, hl, hm, fun i hi => ?_⟩
  obtain ⟨b', off, rfl, hcell⟩ := hc i hi
  refine ⟨b', off, rfl, ?_⟩
  by_cases hbg : b' = N
  · exfalso
    subst hbg
    rw [box_cell h] at hcell
    match hx : off + i, hcell with
    | 0, hcell => simp at hcell
    | 1, hcell => simp at hcell
    | 2, hcell => simp at hcell
    | k + 3, hcell => simp at hcell
  · exact (grown_setC' w N j u).cell hcell (by simpa using hbg)
theorem ratBox_set {w : World} {N : Nat} {x0 x1 x2 : Value} {t : TypeId} (h : w.heap[N]? = some (.cells #[x0, x1, x2] t (0, 0))) (y0 y1 y2 : Value) :
    (((w.setCell ⟨N, 0, none⟩ y0).setCell ⟨N, 1, none⟩ y1).setCell ⟨N, 2, none⟩ y2).heap[N]? = some (.cells #[y0, y1, y2] t (0, 0)) := by
  simp [World.setCell, Array.getElem?_modify, h]
theorem natAt_set3 {w : World} {N : Nat} {b : Bool} {a a' : Option Addr} {n c n' c' : Nat} {t : TypeId} (h : w.heap[N]? = some (.cells #[.bool b, .slice a n c, .slice a' n' c'] t (0, 0))) {v : Value} {x : Nat} (hr : NatAt w v x) (b' : Bool) (p : Option Addr) (q r : Nat) (u : Value) :
    NatAt (((w.setCell ⟨N, 0, none⟩ (.bool b')).setCell ⟨N, 1, none⟩ (.slice p q r)).setCell ⟨N, 2, none⟩ u) v x := by
  have k1 : (w.setCell ⟨N, 0, none⟩ (.bool b')).heap[N]? = some (.cells #[.bool b', .slice a n c, .slice a' n' c'] t (0, 0)) := by simp [World.setCell, Array.getElem?_modify, h]
  have k2 : ((w.setCell ⟨N, 0, none⟩ (.bool b')).setCell ⟨N, 1, none⟩ (.slice p q r)).heap[N]? = some (.cells #[.bool b', .slice p q r, .slice a' n' c'] t (0, 0)) := by simp [World.setCell, Array.getElem?_modify, h]
  exact rowN_box3 k2 (rowN_box3 k1 (rowN_box3 h hr 0 (.bool b')) 1 (.slice p q r)) 2 u

set_option maxRecDepth 100000 in
set_option maxHeartbeats 2000000 in
theorem RatLowest_any (xv : Value) (z : Int) (d : Nat) (w : World) (hx : RatAt w xv z d) (hd0 : 0 < d) (nz : (dig z.natAbs).length ≤ 100000) (nd : (dig d).length ≤ 100000) :
    Calls Tryd.prog 50 #[xv] w fun e w' => ∃ v', e = .returned v' ∧ RatAt w' v' (lowZ z d) (lowD z d) ∧ Below w.heap.size w w' := by
  obtain ⟨b1, v1, v2, m, rfl, hm, hd, rfl⟩ := hx
  rw [ZI_abs] at nz
  have hg0 : 0 < Nat.gcd m d := Nat.gcd_pos_of_pos_right _ hd0
  have HGL := Lib.hid (gcd_len nz nd)
  have HC := Lib.hid (fun W (h : Below w.heap.size w W) => Common_any _ _ m d W (hm.below h) (hd.below h) nz nd)
  have HM := Lib.hid hm
  have HD := Lib.hid hd
  have HZ1 := Lib.hid (lowZ_ZI b1 m d)
  have HZ2 := Lib.hid (lowD_ZI b1 m d)
  obtain ⟨a1, c1, rfl⟩ := hm.slice
  obtain ⟨a2, c2, rfl⟩ := hd.slice
  have NZ := Lib.hid nz
  have ND := Lib.hid nd
  clear hm hd nz nd
  generalize (dig m).length = lm at HC HM
  generalize (dig d).length = ld at HC HD
  have hal := alloc2 w (.cells #[.bool b1, .slice a1 lm c1, .slice a2 ld c2] 43) (.cells #[.bool false, .slice none 0 0, .slice none 0 0] 43)
  go_enter Tryd.func50, Tryd.ntmps50
  go_upto_region 1 with fail
  generalize ((w.alloc (.cells #[.bool b1, .slice a1 lm c1, .slice a2 ld c2] 43)).alloc (.cells #[.bool false, .slice none 0 0, .slice none 0 0] 43)) = w1 at *
  obtain ⟨hb1, h1, h3⟩ := hal
  have d1 := box_cell h1 1
  have d2 := box_cell h1 2
  simp only [List.getElem?_toArray, List.getElem?_cons_zero, List.getElem?_cons_succ] at d1 d2
  go_wp2_with fail
  refine (HC.out w1 hb1).mono ?_
  rintro e w2 ⟨gv, rfl, hG, hb2⟩
  replace h1 := (hb2.block _ (box_lt h1)).trans h1
  replace h3 := (hb2.block _ (box_lt h3)).trans h3
  have hb12 := ext_trans hb1 hb2
  have HG := Lib.hid hG
  have HD1 := Lib.hid (Divide_any _ _ m (Nat.gcd m d) w2 (HM.out.below hb12) hG NZ.out HGL.out hg0)
  clear d1 d2 hb1 hb2 hG
  have d1 := box_cell h1 1
  simp only [List.getElem?_toArray, List.getElem?_cons_zero, List.getElem?_cons_succ] at d1
  go_wp2_with fail
  refine HD1.out.mono ?_
  rintro e w3 ⟨q1, r1, rfl, hQ1, -, hb3⟩
  replace h1 := (hb3.block _ (box_lt h1)).trans h1
  replace h3 := (hb3.block _ (box_lt h3)).trans h3
  have hb13 := ext_trans hb12 hb3
  have HD2 := Lib.hid (Divide_any _ _ d (Nat.gcd m d) w3 (HD.out.below hb13) (HG.out.below hb3) ND.out HGL.out hg0)
  have HQ1 := Lib.hid hQ1
  clear d1 hb12 hb3 hQ1
  have d2 := box_cell h1 2
  simp only [List.getElem?_toArray, List.getElem?_cons_zero, List.getElem?_cons_succ] at d2
  go_wp2_with fail
  refine HD2.out.mono ?_
  rintro e w4 ⟨q2, r2, rfl, hQ2, -, hb4⟩
  replace h1 := (hb4.block _ (box_lt h1)).trans h1
  replace h3 := (hb4.block _ (box_lt h3)).trans h3
  have hb := ext_trans hb13 hb4
  have hQ1 := HQ1.out.below hb4
  obtain ⟨a3, c3, rfl⟩ := hQ1.slice
  obtain ⟨a4, c4, rfl⟩ := hQ2.slice
  generalize (dig (m / Nat.gcd m d)).length = l3 at *
  generalize (dig (d / Nat.gcd m d)).length = l4 at *
  have d0 := box_cell h1 0
  have g0 := box_cell h3 0
  have g1 := box_cell h3 1
  have g2 := box_cell h3 2
  have f0 := box_frozen h3 0
  have f1 := box_frozen h3 1
  have f2 := box_frozen h3 2
  simp only [List.getElem?_toArray, List.getElem?_cons_zero, List.getElem?_cons_succ] at d0 g0 g1 g2
  have hle : w.heap.size ≤ w.heap.size + 1 := by omega
  have F1 := natAt_set3 h3 hQ1 b1 a3 l3 c3 (.slice a4 l4 c4)
  have F2 := natAt_set3 h3 hQ2 b1 a3 l3 c3 (.slice a4 l4 c4)
  have hset := ratBox_set h3 (.bool b1) (.slice a3 l3 c3) (.slice a4 l4 c4)
  have HBL := Lib.hid (((hb.setCell (p := ⟨w.heap.size + 1, 0, none⟩) hle (.bool b1)).setCell (p := ⟨w.heap.size + 1, 1, none⟩) hle (.slice a3 l3 c3)).setCell (p := ⟨w.heap.size + 1, 2, none⟩) hle (.slice a4 l4 c4))
  have t0 := box_cell hset 0
  have t1 := box_cell hset 1
  have t2 := box_cell hset 2
  simp only [List.getElem?_toArray, List.getElem?_cons_zero, List.getElem?_cons_succ] at t0 t1 t2
  rw [HZ2.out] at F2
  have HQ := Lib.hid (show RatAt _ (.agg #[.bool b1, .slice a3 l3 c3, .slice a4 l4 c4]) (lowZ (ZI b1 m) d) (lowD (ZI b1 m) d) from ⟨_, _, _, m / Nat.gcd m d, rfl, F1, F2, HZ1.out⟩)
  clear F1 F2 hQ1 hQ2 HQ1 HD1 HD2 hb13 hb4 HG
  go_wp2
  refine bodyPost_ret (v := .agg #[.bool b1, .slice a3 l3 c3, .slice a4 l4 c4]) (by simp [results, Tryd.results50, go_sem, t0, t1, t2]) rfl ?_
  exact ⟨_, rfl, HQ.out, HBL.out⟩
end Go.Proofs.YtpmadgmjkljbgaaDoor

/- Walks: Ratio.Turned, Ratio.Fits (brindlewoodref3). -/
namespace Go.Proofs.YtpmadgmjkljbgaaDoor
open Go.RowKit

/-- The numerator of a turned ratio. -/
def turnZ (z : Int) (d : Nat) : Int := if z < 0 then -(d : Int) else d
theorem ZI_turn {b : Bool} {m : Nat} (d : Nat) (h : ZI b m ≠ 0) : ZI b d = turnZ (ZI b m) d := by
  unfold turnZ
  have hm : m ≠ 0 := fun e => h ((ZI_zero b m).2 e)
  cases b with
  | true => rw [if_pos ((ZI_lt true m).2 ⟨rfl, by omega⟩)]; rfl
  | false => rw [if_neg (fun e => by have := ((ZI_lt false m).1 e).1; cases this)]; rfl

set_option maxRecDepth 100000 in
set_option maxHeartbeats 2000000 in
theorem RatTurned_any (xv : Value) (z : Int) (d : Nat) (w : World) (hx : RatAt w xv z d) (hz : z ≠ 0) :
    Calls Tryd.prog 27 #[xv] w fun e w' => ∃ v', e = .returned v' ∧ RatAt w' v' (turnZ z d) z.natAbs ∧ Below w.heap.size w w' := by
  obtain ⟨b1, v1, v2, m, rfl, hm, hd, rfl⟩ := hx
  have HT := Lib.hid (ZI_turn d hz)
  have HM := Lib.hid hm
  have HD := Lib.hid hd
  rw [ZI_abs]
  obtain ⟨a1, c1, rfl⟩ := hm.slice
  obtain ⟨a2, c2, rfl⟩ := hd.slice
  clear hm hd hz
  generalize (dig m).length = lm at *
  generalize (dig d).length = ld at *
  have hal := alloc2 w (.cells #[.bool b1, .slice a1 lm c1, .slice a2 ld c2] 43) (.cells #[.bool false, .slice none 0 0, .slice none 0 0] 43)
  go_enter Tryd.func27, Tryd.ntmps27
  go_upto_region 1 with fail
  generalize ((w.alloc (.cells #[.bool b1, .slice a1 lm c1, .slice a2 ld c2] 43)).alloc (.cells #[.bool false, .slice none 0 0, .slice none 0 0] 43)) = w4 at *
  obtain ⟨hb, h1, h3⟩ := hal
  have d0 := box_cell h1 0
  have d1 := box_cell h1 1
  have d2 := box_cell h1 2
  have g0 := box_cell h3 0
  have g1 := box_cell h3 1
  have g2 := box_cell h3 2
  have f0 := box_frozen h3 0
  have f1 := box_frozen h3 1
  have f2 := box_frozen h3 2
  simp only [List.getElem?_toArray, List.getElem?_cons_zero, List.getElem?_cons_succ] at d0 d1 d2 g0 g1 g2
  have hle : w.heap.size ≤ w.heap.size + 1 := by omega
  have F1 := natAt_set3 h3 (HD.out.below hb) b1 a2 ld c2 (.slice a1 lm c1)
  have F2 := natAt_set3 h3 (HM.out.below hb) b1 a2 ld c2 (.slice a1 lm c1)
  have hset := ratBox_set h3 (.bool b1) (.slice a2 ld c2) (.slice a1 lm c1)
  have HBL := Lib.hid (((hb.setCell (p := ⟨w.heap.size + 1, 0, none⟩) hle (.bool b1)).setCell (p := ⟨w.heap.size + 1, 1, none⟩) hle (.slice a2 ld c2)).setCell (p := ⟨w.heap.size + 1, 2, none⟩) hle (.slice a1 lm c1))
  have t0 := box_cell hset 0
  have t1 := box_cell hset 1
  have t2 := box_cell hset 2
  simp only [List.getElem?_toArray, List.getElem?_cons_zero, List.getElem?_cons_succ] at t0 t1 t2
  have HQ := Lib.hid (show RatAt _ (.agg #[.bool b1, .slice a2 ld c2, .slice a1 lm c1]) (turnZ (ZI b1 m) d) m from ⟨_, _, _, d, rfl, F1, F2, HT.out⟩)
  clear F1 F2
  go_wp2
  refine bodyPost_ret (v := .agg #[.bool b1, .slice a2 ld c2, .slice a1 lm c1]) (by simp [results, Tryd.results27, go_sem, t0, t1, t2]) rfl ?_
  exact ⟨_, rfl, HQ.out, HBL.out⟩
end Go.Proofs.YtpmadgmjkljbgaaDoor

/- Walk: Ratio.Fits (brindlewoodref3). -/
namespace Go.Proofs.YtpmadgmjkljbgaaDoor
open Go.RowKit

set_option maxRecDepth 100000 in
set_option maxHeartbeats 2000000 in
theorem RatFits_any (xv : Value) (z : Int) (d : Nat) (w : World) (hx : RatAt w xv z d) :
    Calls Tryd.prog 68 #[xv] w fun e w' => e = .returned (.bool (decide ((dig z.natAbs).length ≤ 256) && decide ((dig d).length ≤ 256))) ∧ Below w.heap.size w w' := by
  obtain ⟨b1, v1, v2, m, rfl, hm, hd, rfl⟩ := hx
  have HF := Lib.hid (fun W (h : Below w.heap.size w W) => IntFits_any _ (ZI b1 m) 128 W ⟨b1, v1, m, rfl, hm.below h, rfl⟩ (by omega))
  rw [ZI_abs] at HF ⊢
  obtain ⟨a1, c1, rfl⟩ := hm.slice
  obtain ⟨a2, c2, rfl⟩ := hd.slice
  clear hm hd
  generalize (dig m).length = lm at *
  generalize (dig d).length = ld at *
  have hb1 := ext_alloc w (.cells #[.bool b1, .slice a1 lm c1, .slice a2 ld c2] 43)
  have h1 := heap_new w (.cells #[.bool b1, .slice a1 lm c1, .slice a2 ld c2] 43)
  go_enter Tryd.func68, Tryd.ntmps68
  go_upto_region 1 with fail
  generalize (w.alloc (.cells #[.bool b1, .slice a1 lm c1, .slice a2 ld c2] 43)) = w1 at *
  have d0 := box_cell h1 0
  have d1 := box_cell h1 1
  simp only [List.getElem?_toArray, List.getElem?_cons_zero, List.getElem?_cons_succ] at d0 d1
  go_wp2_with fail
  refine (HF.out w1 hb1).mono ?_
  rintro e w2 ⟨rfl, hb2⟩
  replace h1 := (hb2.block _ (box_lt h1)).trans h1
  have hb := ext_trans hb1 hb2
  have d2 := box_cell h1 2
  simp only [List.getElem?_toArray, List.getElem?_cons_zero, List.getElem?_cons_succ] at d2
  clear d0 d1 hb1 hb2 HF
  by_cases hl : lm ≤ 2 * 128
  · have HR := Lib.hid (show decide ((ld : Int) ≤ 256) = (decide (lm ≤ 256) && decide (ld ≤ 256)) by
      rw [show decide (lm ≤ 256) = true by simpa using hl, Bool.true_and, decide_eq_decide]; omega)
    have hdl : decide (lm ≤ 2 * 128) = true := by simpa using hl
    clear hl
    rw [hdl]
    go_wp2
    go_ret
    exact ⟨ret_bool HR.out, hb⟩
  · have HR := Lib.hid (show false = (decide (lm ≤ 256) && decide (ld ≤ 256)) by
      rw [show decide (lm ≤ 256) = false by simpa using hl, Bool.false_and])
    have hdl : decide (lm ≤ 2 * 128) = false := by simpa using hl
    clear hl
    rw [hdl]
    go_wp2
    go_ret
    exact ⟨ret_bool HR.out, hb⟩
end Go.Proofs.YtpmadgmjkljbgaaDoor

/- Walk: Whole (brindlewoodref3). -/
namespace Go.Proofs.YtpmadgmjkljbgaaDoor
open Go.RowKit

theorem boxes_keep3 {w : World} {N M : Nat} {o : Obj} (h : w.heap[N]? = some o) (hne : N ≠ M) (a b c : Value) : (((w.setCell ⟨M, 0, none⟩ a).setCell ⟨M, 1, none⟩ b).setCell ⟨M, 2, none⟩ c).heap[N]? = some o := by
  simp [World.setCell, Array.getElem?_modify, h, hne.symm]

set_option maxRecDepth 100000 in
set_option maxHeartbeats 2000000 in
theorem Whole_any (xv : Value) (x : Int) (w : World) (hx : IntAt w xv x) :
    Calls Tryd.prog 28 #[xv] w fun e w' => ∃ v', e = .returned v' ∧ RatAt w' v' x 1 ∧ Below w.heap.size w w' := by
  obtain ⟨b1, v1, m, rfl, hm, rfl⟩ := hx
  have HM := Lib.hid hm
  obtain ⟨a1, c1, rfl⟩ := hm.slice
  clear hm
  generalize (dig m).length = lm at *
  have hal := alloc2 w (.cells #[.bool b1, .slice a1 lm c1] 41) (.cells #[.bool false, .slice none 0 0, .slice none 0 0] 43)
  go_enter Tryd.func28, Tryd.ntmps28
  go_upto_region 1 with fail
  generalize ((w.alloc (.cells #[.bool b1, .slice a1 lm c1] 41)).alloc (.cells #[.bool false, .slice none 0 0, .slice none 0 0] 43)) = w1 at *
  obtain ⟨hb1, h1, h3⟩ := hal
  have hcs : ∀ W : World, W.heap[w.heap.size]? = some (.cells #[.bool b1, .slice a1 lm c1] 41) → Cs [(⟨w.heap.size, 0, none⟩, .bool b1), (⟨w.heap.size, 1, none⟩, .slice a1 lm c1)] W := by
    intro W k1
    have d0 := box_cell k1 0
    have d1 := box_cell k1 1
    simp only [List.getElem?_toArray, List.getElem?_cons_zero, List.getElem?_cons_succ] at d0 d1
    intro x hx
    simp only [List.mem_cons, List.not_mem_nil, or_false] at hx
    rcases hx with rfl | rfl
    · exact d0
    · exact d1
  have HCS := Lib.hid hcs
  clear hcs
  have hbd := hb1.drew
  have hle : w.heap.size ≤ w.heap.size + 1 := by omega
  refine wp_region_noPanic ?_
  refine wp_region_L (S := fun _ W => Cs [(⟨w.heap.size, 0, none⟩, .bool b1), (⟨w.heap.size, 1, none⟩, .slice a1 lm c1)] W) (by kernel_rfl) ?_
  refine wpAnyL_take (T := fun W => Cs [(⟨w.heap.size, 0, none⟩, .bool b1), (⟨w.heap.size, 1, none⟩, .slice a1 lm c1)] W) (i := 0) (v := ?vvwa0) rfl (by kernel_rfl) (by kernel_rfl) (by kernel_rfl) (fun _ _ _ h => h) (fun _ _ => Iff.rfl) (fun _ _ _ _ h => h) (Closed.of_B (by kernel_rfl)) (Or.inl ⟨by kernel_rfl, ?hywa0⟩) (HCS.out _ h1) ?restwa0
  case hywa0 => (intro W hW; simp only [Cs, List.forall_mem_cons] at hW; obtain ⟨m0, m1, -⟩ := hW; go_simp; with_reducible rfl)
  go_simp
  refine wpAnyL_ready (rs := [1]) (by kernel_rfl) (by simp) ?_
  refine AllL.cons rfl (by kernel_rfl) (fun K hK => ?_) AllL.nil
  go_simp
  refine (Small_any 1 w1.drew (by omega)).mono ?_
  rintro e w2 ⟨v', rfl, hN, hb2⟩
  have hb := ext_trans hbd hb2
  replace h1 := (hb2.block _ (box_lt h1)).trans h1
  replace h3 := (hb2.block _ (box_lt h3)).trans h3
  refine hK _ _ ⟨HCS.out _ h1, ?_⟩
  clear hK K
  have HN := Lib.hid (show NatAt w2 v' 1 from hN)
  obtain ⟨a3, c3, rfl⟩ := HN.out.slice
  generalize (dig 1).length = l3 at *
  clear hN
  refine wpAnyL_take (T := fun _ => True) (i := 2) (v := ?vvwaq2) rfl (by kernel_rfl) (by kernel_rfl) (by kernel_rfl) (fun _ _ _ h => h) (fun _ _ => Iff.rfl) (fun _ _ _ _ _ => trivial) (Closed.of_B (by kernel_rfl)) (Or.inl ⟨by kernel_rfl, ?hywaq2⟩) (HCS.out _ h1) ?restwaq2
  case hywaq2 => (intro w _; go_simp; with_reducible rfl)
  go_simp
  have g0 := box_cell h3 0
  have g1 := box_cell h3 1
  have g2 := box_cell h3 2
  have f0 := box_frozen h3 0
  have f1 := box_frozen h3 1
  have f2 := box_frozen h3 2
  simp only [List.getElem?_toArray, List.getElem?_cons_zero, List.getElem?_cons_succ] at g0 g1 g2
  have F1 := natAt_set3 h3 (HM.out.below hb) b1 a1 lm c1 (.slice a3 l3 c3)
  have F2 := natAt_set3 h3 HN.out b1 a1 lm c1 (.slice a3 l3 c3)
  have hset := ratBox_set h3 (.bool b1) (.slice a1 lm c1) (.slice a3 l3 c3)
  have k1 := boxes_keep3 h1 (show w.heap.size ≠ w.heap.size + 1 by omega) (.bool b1) (.slice a1 lm c1) (.slice a3 l3 c3)
  have HBL := Lib.hid (((hb.setCell (p := ⟨w.heap.size + 1, 0, none⟩) hle (.bool b1)).setCell (p := ⟨w.heap.size + 1, 1, none⟩) hle (.slice a1 lm c1)).setCell (p := ⟨w.heap.size + 1, 2, none⟩) hle (.slice a3 l3 c3))
  have t0 := box_cell hset 0
  have t1 := box_cell hset 1
  have t2 := box_cell hset 2
  simp only [List.getElem?_toArray, List.getElem?_cons_zero, List.getElem?_cons_succ] at t0 t1 t2
  have HQ := Lib.hid (show RatAt _ (.agg #[.bool b1, .slice a1 lm c1, .slice a3 l3 c3]) (ZI b1 m) 1 from ⟨_, _, _, m, rfl, F1, F2, rfl⟩)
  clear F1 F2
  refine wpAnyL_ready (rs := [3]) (by kernel_rfl) (by simp) ?_
  refine AllL.cons rfl (by kernel_rfl) (fun K hK => ?_) AllL.nil
  go_simp
  refine hK _ _ ⟨HCS.out _ k1, ?_⟩
  clear hK K
  refine wpAnyL_done (by kernel_rfl) ?_ _
  refine NoPanic.normal ?_
  go_wp2
  refine bodyPost_ret (v := .agg #[.bool b1, .slice a1 lm c1, .slice a3 l3 c3]) (by simp [results, Tryd.results28, go_sem, t0, t1, t2]) rfl ?_
  exact ⟨_, rfl, HQ.out, HBL.out⟩
end Go.Proofs.YtpmadgmjkljbgaaDoor
