/- Walk: Bind. -/
import Derived.Test.YtbickehhnkhabaaBd10
import Derived.Test.YtbickehhnkhabaaBd6
import Derived.Test.YtbickehhnkhabaaArg4
namespace Go.Proofs.Ytbickehhnkhabaa
open Go.RowKit

def nilBd : Value := .agg #[.slice none 0 0, .slice none 0 0, .slice none 0 0, .slice none 0 0]

/-- What stands behind the named arguments. -/
def contF (ps : List Par) (ds rest : List Val) (x : BMsg ⊕ BSt Val) : BMsg ⊕ (BSt Val × List Val) := match x with
  | .inl m => .inl m
  | .inr st => match restGo unbV isUV 0 st.vals ds ps with
    | .inl m => .inl m
    | .inr vals => .inr ({ st with vals := vals }, rest)
theorem bindF_cont (ps : List Par) (ds l : List Val) (nv : List (ByteArray × Val)) : bindF unbV isUV ps ds l nv = if startRest ps l ≠ [] ∧ starOk ps = false then .inl .many else contF ps ds (startRest ps l) (namesGo unbV isUV ps ⟨startV unbV ps l, [], []⟩ nv) := by
  unfold bindF contF
  split
  · rfl
  · cases namesGo unbV isUV ps ⟨startV unbV ps l, [], []⟩ nv with
    | inl m => rfl
    | inr st =>
      simp only
      cases restGo unbV isUV 0 st.vals ds ps <;> rfl
theorem app_ne (a b : ByteArray) (h : b.toList.isEmpty = false) : (a ++ b).toList.isEmpty = false := by
  rw [ByteArray.toList_eq] at h ⊢
  simp at h ⊢
  intro h1 h2
  exact h h2
theorem msgT_ne (fn : ByteArray) (m : BMsg) : (msgT fn m).toList.isEmpty = false := by
  cases m <;> (unfold msgT; try unfold needsT) <;> exact app_ne _ _ (by decide +kernel)
theorem step_len {ps : List Par} {st st' : BSt Val} {nm : ByteArray} {v : Val} (h : nameStep unbV isUV ps st nm v = .inr st') : st'.names.length ≤ st.names.length + 1 ∧ st'.named.length ≤ st.named.length + 1 := by
  unfold nameStep at h
  repeat' (split at h)
  all_goals first
    | (cases h; done)
    | (simp only [Sum.inr.injEq] at h; subst h; simp)

/-- The state at the head of the loop over the named arguments. -/
def LoopSt (w0 wr : World) (N : Nat) (pv : Value) (fn : ByteArray) (ps : List Par) (ds : List Val) (vv rv : Value) (rest : List Val) (RR : BMsg ⊕ (BSt Val × List Val)) (k : Nat) (nvl : List (ByteArray × Val)) (t : ByteArray) : Prop :=
  (t.toList.isEmpty = false ∧ ∃ m, RR = .inl m ∧ t = msgT fn m) ∨
  (∃ st nv mv, t = ⟨#[]⟩ ∧ RR = contF ps ds rest (namesGo unbV isUV ps st nvl) ∧ st.names.length ≤ k ∧ st.named.length ≤ k ∧ BAt w0 wr N pv fn ps.length vv rv nv mv st rest)

theorem bdO_set2 {w : World} {N : Nat} {a0 a1 a2 a3 a4 a5 : Value} {t : TypeId} (h : w.heap[N]? = some (.cells #[a0, a1, a2, a3, a4, a5] t (0, 0))) (v : Value) :
    (w.setCell ⟨N, 2, none⟩ v).heap[N]? = some (.cells #[a0, a1, v, a3, a4, a5] t (0, 0)) := by
  simp [World.setCell, Array.getElem?_modify, h]
theorem rep_succ (k : Nat) : (List.replicate (k + 1) unbV).flatMap valC = (List.replicate k unbV).flatMap valC ++ valC unbV := by
  rw [List.replicate_succ', List.flatMap_append]; simp
theorem apart_of {a b : Option Nat} (d : ∀ k, a = some k → b ≠ some k) : b = none ∨ b ≠ a := by
  cases b with
  | none => exact .inl rfl
  | some q => right; intro e; exact d q e.symm rfl
theorem own_res {W : World} {base e z n N1 N2 : Nat} {v : Value} {xs : List Value} (h : W.ownsRow base e z v n xs) (h1 : N1 < base) (h2 : N2 < base) (x0 x1 x2 x3 c i : Value) :
    ((((((W.setCell ⟨N1, 0, none⟩ x0).setCell ⟨N1, 1, none⟩ x1).setCell ⟨N1, 2, none⟩ x2).setCell ⟨N1, 3, none⟩ x3).setCell ⟨N2, 0, none⟩ c).setCell ⟨N2, 1, none⟩ i).ownsRow base e z v n xs := by
  have n1 : v.ownBlock ≠ some N1 := fun e => by have := (h.lt N1 e).1; omega
  have n2 : v.ownBlock ≠ some N2 := fun e => by have := (h.lt N2 e).1; omega
  exact (((((h.kept (grown_setC _ N1 0 x0) (.inr n1)).kept (grown_setC _ N1 1 x1) (.inr n1)).kept (grown_setC _ N1 2 x2) (.inr n1)).kept (grown_setC _ N1 3 x3) (.inr n1)).kept (grown_setC _ N2 0 c) (.inr n2)).kept (grown_setC _ N2 1 i) (.inr n2)

/-- What Bind answers. -/
def BindPost (w : World) (fn : ByteArray) (ps : List Par) (ds l : List Val) (names : List ByteArray) (named : List Val) (e : Ending) (w' : World) : Prop :=
  Below w.heap.size w w' ∧
  ((bindFF ps ds.length l names.length named).1 ≠ 0 ∧ e = .returned (.tuple #[nilBd, .string ⟨#[]⟩, faultV (bindFF ps ds.length l names.length named).1 (bindFF ps ds.length l names.length named).2]) ∨
  (bindFF ps ds.length l names.length named).1 = 0 ∧
    ((∃ m, bindF unbV isUV ps ds l (names.zip named) = .inl m ∧ e = .returned (.tuple #[nilBd, .string (msgT fn m), faultV 0 0])) ∨
     ∃ st rest vv rv nv mv, bindF unbV isUV ps ds l (names.zip named) = .inr (st, rest) ∧ e = .returned (.tuple #[.agg #[vv, rv, nv, mv], .string ⟨#[]⟩, faultV 0 0]) ∧ BoundAt w' vv rv nv mv st.vals rest st.names st.named))

theorem BindPost.bad {w w' : World} {fn : ByteArray} {ps : List Par} {ds l : List Val} {names : List ByteArray} {named : List Val} {c i : Int} (h : bindFF ps ds.length l names.length named = (c, i)) (hc : c ≠ 0) (hb : Below w.heap.size w w') :
    BindPost w fn ps ds l names named (.returned (.tuple #[nilBd, .string ⟨#[]⟩, faultV c i])) w' := ⟨hb, .inl ⟨by rw [h]; exact hc, by rw [h]⟩⟩

theorem box4 {w : World} {N : Nat} {x y z u : Value} {t : TypeId} (h : w.heap[N]? = some (.cells #[x, y, z, u] t (0, 0))) :
    w.cell? ⟨N, 0, none⟩ = some x ∧ w.cell? ⟨N, 1, none⟩ = some y ∧ w.cell? ⟨N, 2, none⟩ = some z ∧ w.cell? ⟨N, 3, none⟩ = some u ∧ (∀ i, w.frozen? ⟨N, i, none⟩ = false) ∧ N < w.heap.size :=
  ⟨by simpa using box_cell h 0, by simpa using box_cell h 1, by simpa using box_cell h 2, by simpa using box_cell h 3, box_frozen h, box_lt h⟩
theorem res_set {w : World} {N1 N2 : Nat} {y0 y1 y2 y3 a b : Value} {t1 t2 : TypeId} (h1 : w.heap[N1]? = some (.cells #[y0, y1, y2, y3] t1 (0, 0))) (h2 : w.heap[N2]? = some (.cells #[a, b] t2 (0, 0))) (hne : N1 ≠ N2) (x0 x1 x2 x3 c i : Value) :
    ((((((w.setCell ⟨N1, 0, none⟩ x0).setCell ⟨N1, 1, none⟩ x1).setCell ⟨N1, 2, none⟩ x2).setCell ⟨N1, 3, none⟩ x3).setCell ⟨N2, 0, none⟩ c).setCell ⟨N2, 1, none⟩ i).heap[N1]? = some (.cells #[x0, x1, x2, x3] t1 (0, 0)) ∧
    ((((((w.setCell ⟨N1, 0, none⟩ x0).setCell ⟨N1, 1, none⟩ x1).setCell ⟨N1, 2, none⟩ x2).setCell ⟨N1, 3, none⟩ x3).setCell ⟨N2, 0, none⟩ c).setCell ⟨N2, 1, none⟩ i).heap[N2]? = some (.cells #[c, i] t2 (0, 0)) := by
  constructor
  · simp [World.setCell, Array.getElem?_modify, h1, hne.symm]
  · simp [World.setCell, Array.getElem?_modify, h2, hne]

theorem below_res {B N1 N2 : Nat} {w W : World} (h : Below B w W) (h1 : B ≤ N1) (h2 : B ≤ N2) (x0 x1 x2 x3 c i : Value) :
    Below B w ((((((W.setCell ⟨N1, 0, none⟩ x0).setCell ⟨N1, 1, none⟩ x1).setCell ⟨N1, 2, none⟩ x2).setCell ⟨N1, 3, none⟩ x3).setCell ⟨N2, 0, none⟩ c).setCell ⟨N2, 1, none⟩ i) :=
  (((((h.setCell h1 _).setCell h1 _).setCell h1 _).setCell h1 _).setCell h2 _).setCell h2 _
theorem flat_one (l : List Val) : ∀ u ∈ l.flatMap valC, u.oneCell' = true := by
  intro u hu
  rw [List.mem_flatMap] at hu
  obtain ⟨x, _, hx⟩ := hu
  simp only [valC, List.mem_cons, List.not_mem_nil, or_false] at hx
  rcases hx with rfl | rfl | rfl | rfl | rfl | rfl | rfl <;> rfl
/-- Concat over two rows of values. -/
theorem Concat2_any (lv mv : Value) (l m : List Val) (w : World) (hl : ValsAt w lv l) (hm : ValsAt w mv m) (h : l.length + m.length ≤ 1000) (N : Nat) (hN : w.heap[N]? = some (.cells #[lv, mv] 36 (0, 0))) :
    Calls Try.prog 23 #[.slice (some ⟨N, 0, none⟩) 2 2] w fun e w' => ∃ v', e = .returned v' ∧ w'.ownsRow w.heap.size 58 7 v' (l ++ m).length ((l ++ m).flatMap valC) ∧ Below w.heap.size w w' := by
  refine (ConcatV_any _ [lv, mv] [(l.length, l.flatMap valC), (m.length, m.flatMap valC)] w ⟨some ⟨N, 0, none⟩, 2, rfl, by simp, by omega, fun i hi => ⟨N, 0, rfl, ?_⟩⟩ rfl ?_ (by simp [totalB]; omega) ?_).mono ?_
  · rw [Nat.zero_add, box_cell hN i]
    simp
  · intro i hi
    match i, hi with
    | 0, _ => exact hl
    | 1, _ => exact hm
  · intro x hx
    simp only [List.mem_cons, List.not_mem_nil, or_false] at hx
    rcases hx with rfl | rfl
    · exact flat_one l
    · exact flat_one m
  · rintro e w' ⟨v', rfl, ho, hb⟩
    exact ⟨v', rfl, own_cast ho (by simp [totalB]) (by simp), hb⟩
theorem find_two (l m : List Val) : (match l.findIdx? isUV with
      | some k => ((18 : Int), (k : Int))
      | none => match m.findIdx? isUV with
        | some k => (18, ((l.length + k : Nat) : Int))
        | none => (0, 0)) = (match (l ++ m).findIdx? isUV with
      | some k => ((18 : Int), (k : Int))
      | none => (0, 0)) := by
  rw [List.findIdx?_append]
  cases h1 : l.findIdx? isUV with
  | some k => simp
  | none =>
    cases h2 : m.findIdx? isUV with
    | some k => simp; omega
    | none => simp

set_option maxRecDepth 100000 in
set_option maxHeartbeats 4000000 in
theorem Bind_any (pv dv lv nv mv : Value) (fn : ByteArray) (ps : List Par) (ds l : List Val) (names : List ByteArray) (named : List Val) (w : World)
    (hv : ParamsAt w pv ps) (hd : ValsAt w dv ds) (hl : ValsAt w lv l) (hn : RowOf Value.string w nv names) (hm : ValsAt w mv named)
    (hll : l.length ≤ 140737488355328) (hnl : names.length ≤ 140737488355328) (hml : named.length ≤ 140737488355328) (hfn : fn.size ≤ 140737488355328) (hsz : ∀ p ∈ ps, p.s.size ≤ 140737488355328) (hns : ∀ s ∈ names, s.size ≤ 140737488355328) :
    Calls Try.prog 18 #[pv, dv, .agg #[lv, nv, mv], .string fn] w fun e w' => BindPost w fn ps ds l names named e w' := by
  obtain ⟨pa, pc, rfl⟩ := hv.len
  obtain ⟨da, dc, rfl⟩ := hd.isSlice
  obtain ⟨la, lc, rfl⟩ := hl.isSlice
  obtain ⟨ma, mc, rfl⟩ := hm.isSlice
  obtain ⟨na, nc, rfl⟩ : ∃ na nc, nv = .slice na names.length nc := by obtain ⟨a, c, rfl, _⟩ := hn; exact ⟨_, _, rfl⟩
  have HV := Lib.hid hv
  have HD := Lib.hid hd
  have HL := Lib.hid hl
  have HN := Lib.hid hn
  have HM := Lib.hid hm
  have HSZ := Lib.hid hsz
  have HNS := Lib.hid hns
  clear hv hd hl hn hm hsz hns
  have hb1 := ext_alloc w (.cells #[.slice la l.length lc, .slice na names.length nc, .slice ma named.length mc] 39)
  have hx1 := heap_new w (.cells #[.slice la l.length lc, .slice na names.length nc, .slice ma named.length mc] 39)
  have hz1 : (w.alloc (.cells #[.slice la l.length lc, .slice na names.length nc, .slice ma named.length mc] 39)).heap.size = w.heap.size + 1 := by simp
  go_enter Try.func18, Try.ntmps18
  go_upto_region 1 with fail
  have hb2 := ext_alloc (w.alloc (.cells #[.slice la l.length lc, .slice na names.length nc, .slice ma named.length mc] 39)) (.cells #[.slice none 0 0, .slice none 0 0, .slice none 0 0, .slice none 0 0] 41)
  have hx2 := heap_new (w.alloc (.cells #[.slice la l.length lc, .slice na names.length nc, .slice ma named.length mc] 39)) (.cells #[.slice none 0 0, .slice none 0 0, .slice none 0 0, .slice none 0 0] 41)
  have hz2 : ((w.alloc (.cells #[.slice la l.length lc, .slice na names.length nc, .slice ma named.length mc] 39)).alloc (.cells #[.slice none 0 0, .slice none 0 0, .slice none 0 0, .slice none 0 0] 41)).heap.size = w.heap.size + 2 := by simp
  replace hx1 := (hb2.block _ (box_lt hx1)).trans hx1
  have hbb := ext_trans hb1 hb2
  have hb3 := ext_alloc ((w.alloc (.cells #[.slice la l.length lc, .slice na names.length nc, .slice ma named.length mc] 39)).alloc (.cells #[.slice none 0 0, .slice none 0 0, .slice none 0 0, .slice none 0 0] 41)) (.cells #[.int .i64 0, .int .i64 0] 27)
  have hx3 := heap_new ((w.alloc (.cells #[.slice la l.length lc, .slice na names.length nc, .slice ma named.length mc] 39)).alloc (.cells #[.slice none 0 0, .slice none 0 0, .slice none 0 0, .slice none 0 0] 41)) (.cells #[.int .i64 0, .int .i64 0] 27)
  replace hx1 := (hb3.block _ (box_lt hx1)).trans hx1
  replace hx2 := (hb3.block _ (box_lt hx2)).trans hx2
  replace hbb := ext_trans hbb hb3
  rw [hz1] at hx2
  rw [hz2] at hx3
  clear hb1 hb2 hb3 hz1 hz2
  generalize (((w.alloc (.cells #[.slice la l.length lc, .slice na names.length nc, .slice ma named.length mc] 39)).alloc (.cells #[.slice none 0 0, .slice none 0 0, .slice none 0 0, .slice none 0 0] 41)).alloc (.cells #[.int .i64 0, .int .i64 0] 27)) = w3 at *
  rw [show w.heap.size + 2 = w.heap.size + 1 + 1 from rfl] at hx3
  have hN1 : w.heap.size < w.heap.size + 1 := by omega
  have hN2 : w.heap.size + 1 < w.heap.size + 1 + 1 := by omega
  have hN02 : w.heap.size ≤ w.heap.size + 1 + 1 := by omega
  have hN12 : ¬ (w.heap.size + 1 = w.heap.size + 1 + 1) := by omega
  have hN21 : ¬ (w.heap.size + 1 + 1 = w.heap.size + 1) := by omega
  generalize w.heap.size + 1 + 1 = N2 at *
  generalize w.heap.size + 1 = N1 at *
  go_wp2_with fail
  refine (Check_any _ _ _ (HV.out.below hbb)).mono ?_
  rintro e w4 ⟨rfl, hb4⟩
  simp only [faultV]
  replace hx1 := (hb4.block _ (box_lt hx1)).trans hx1
  replace hx2 := (hb4.block _ (box_lt hx2)).trans hx2
  replace hx3 := (hb4.block _ (box_lt hx3)).trans hx3
  replace hbb := ext_trans hbb hb4
  clear hb4
  have n51 : ¬ (w4.heap.size = N1) := fun e => by have := box_lt hx2; omega
  have n15 : ¬ (N1 = w4.heap.size) := fun e => n51 e.symm
  have n52 : ¬ (w4.heap.size = N2) := fun e => by have := box_lt hx3; omega
  have n25 : ¬ (N2 = w4.heap.size) := fun e => n52 e.symm
  have hb5 := ext_alloc w4 (.cells #[.int .i64 (parF ps).1, .int .i64 (parF ps).2] 27)
  have hx5 := heap_new w4 (.cells #[.int .i64 (parF ps).1, .int .i64 (parF ps).2] 27)
  go_upto_region 2 with fail
  replace hx1 := (hb5.block _ (box_lt hx1)).trans hx1
  replace hx2 := (hb5.block _ (box_lt hx2)).trans hx2
  replace hx3 := (hb5.block _ (box_lt hx3)).trans hx3
  replace hbb := ext_trans hbb hb5
  clear hb5
  generalize (w4.alloc (.cells #[.int .i64 (parF ps).1, .int .i64 (parF ps).2] 27)) = w5 at *
  generalize w4.heap.size = N5 at *
  obtain ⟨p0, p1, p2, p3⟩ := box2 hx5
  by_cases hc : (parF ps).1 = 0
  · obtain ⟨h12, hbad, hz⟩ := parF_zero hc
    have HN1 := Lib.hid (n_le_one hbad)
    have HSum := Lib.hid (sumN_le HN1.out)
    have HK := Lib.hid (fun i h => (good_of ps hbad).kind i h)
    have HB : Hid (bindFF ps ds.length l names.length named = if sumN ps ≠ ds.length then ((9 : Int), (-2 : Int)) else if names.length ≠ named.length then (9, -3) else if 1000 < l.length + names.length then (2, -3) else match l.findIdx? isUV with
      | some k => (18, (k : Int))
      | none => match named.findIdx? isUV with
        | some k => (18, ((l.length + k : Nat) : Int))
        | none => (0, 0)) := by unfold Hid bindFF; rw [if_neg (fun h => h hc)]; rfl
    rw [hc] at hx5 p0 ⊢
    clear hbad hz hc
    generalize (parF ps).2 = pc2 at *
    go_wp2
    go_loopg [12, 29] ps.length (fun q s12 s29 wr => ∃ k : Nat, k ≤ ps.length ∧ ps.length - k ≤ q ∧ s29 = .int .i64 k ∧ s12 = .int .i64 (sumN (ps.take k) : Nat) ∧ Below w5.heap.size w5 wr)
    case atStart => exact ⟨0, Nat.zero_le _, by omega, rfl, rfl, Below.refl _ _⟩
    case round =>
      obtain ⟨k, hk, hq, rfl, rfl, hb⟩ := hrel
      have hbw := ext_trans hbb hb
      by_cases hlt : k < ps.length
      · obtain ⟨a', c', he, _, _, hc⟩ := HV.out.below hbw
        simp only [Value.slice.injEq, true_and] at he
        obtain ⟨rfl, rfl⟩ := he
        obtain ⟨b, off, da', dc', rfl, z0, z1, z2⟩ := hc k hlt
        have hS := sumN_succ ps k hlt
        have hle := HSum.out (k + 1) hlt
        rw [hS] at hle
        have HS := Lib.hid hS
        clear hc hS
        generalize sumN (ps.take k) = sk at *
        generalize ps[k].k = pk at *
        generalize ps[k].n = pn at *
        generalize ps[k].s = nm at *
        have hbA := ext_alloc wr (.cells #[.int .i64 pk, .string nm, .slice da' pn dc'] 51)
        go_wp2
        go_roundg (ps.length - (k + 1))
        case measure => omega
        case rel => exact ⟨k + 1, by omega, by omega, by go_num, by rw [HS.out]; go_num, ext_trans hb hbA⟩
      · have hk' : k = ps.length := by omega
        have hT : sumN (ps.take k) = sumN ps := by rw [hk', List.take_of_length_le (Nat.le_refl _)]
        have hle := HSum.out k (by omega)
        rw [hT] at hle ⊢
        replace hx1 := (hb.block _ (box_lt hx1)).trans hx1
        replace hx2 := (hb.block _ (box_lt hx2)).trans hx2
        replace hx3 := (hb.block _ (box_lt hx3)).trans hx3
        clear hT hk' hq hk hx5 p0 p1 p2 p3 hb hbb
        generalize hsn : sumN ps = sn at *
        have HSN := Lib.hid hsn
        clear hsn
        by_cases h1 : ds.length = sn
        · have HDS := Lib.hid h1
          have h1c : (((ds.length : Nat) : Int) != (sn : Int)) = false := by simp [h1]
          have HB2 := Lib.hid (HB.out.trans (if_neg (fun h => h h1.symm)))
          clear HB h1
          by_cases h2 : names.length = named.length
          · have HNM := Lib.hid h2
            have h2c : (((names.length : Nat) : Int) != (named.length : Int)) = false := by simp [h2]
            have HB3 := Lib.hid (HB2.out.trans (if_neg (fun h => h h2)))
            clear HB2
            by_cases h3 : 1000 < l.length + names.length
            · have h3i : ((l.length : Int) + (names.length : Int) > 1000) := by omega
              have HR : Hid (bindFF ps ds.length l names.length named = (2, -3)) := by unfold Hid; rw [HB3.out, if_pos h3]
              clear HB3 h3 h2
              have hx1a := box_cell hx1 0
              have hx1b := box_cell hx1 1
              have hx1c := box_cell hx1 2
              simp only [List.getElem?_toArray, List.getElem?_cons_zero, List.getElem?_cons_succ] at hx1a hx1b hx1c
              go_wp2_with fail
              refine (afault_any _ _ _).mono ?_
              rintro e w6 ⟨rfl, hb6⟩
              simp only [faultV]
              replace hx2 := (hb6.block _ (box_lt hx2)).trans hx2
              replace hx3 := (hb6.block _ (box_lt hx3)).trans hx3
              obtain ⟨q0, q1, q2, q3, qf, ql⟩ := box4 hx2
              obtain ⟨r0, r1, r2, r3⟩ := box2 hx3
              have f0 := qf 0
              have f1 := qf 1
              have f2 := qf 2
              have f3 := qf 3
              clear qf hx1a hx1b hx1c
              go_wp2
              obtain ⟨s1, s2⟩ := res_set hx2 hx3 hN12 (.slice none 0 0) (.slice none 0 0) (.slice none 0 0) (.slice none 0 0) (.int .i64 2) (.int .i64 (-3))
              obtain ⟨t0, t1, t2, t3, -, -⟩ := box4 s1
              obtain ⟨y0, y1, -, -⟩ := box2 s2
              refine bodyPost_ret (v := .tuple #[nilBd, .string ⟨#[]⟩, faultV 2 (-3)]) (by simp [results, Try.results18, go_sem, t0, t1, t2, t3, y0, y1, nilBd, faultV]) rfl ?_
              exact BindPost.bad HR.out (by decide) (below_res (ext_trans hbw hb6) (Nat.le_of_lt hN1) hN02 _ _ _ _ _ _)
            · have h3i : ¬ ((l.length : Int) + (names.length : Int) > 1000) := by omega
              have HB4 := Lib.hid ((HB3.out.trans (if_neg h3)).trans (find_two l named))
              have hmn : l.length + named.length ≤ 1000 := by omega
              clear HB3 h2
              have hx1a := box_cell hx1 0
              have hx1b := box_cell hx1 1
              have hx1c := box_cell hx1 2
              simp only [List.getElem?_toArray, List.getElem?_cons_zero, List.getElem?_cons_succ] at hx1a hx1b hx1c
              have hbA := ext_alloc wr (.cells #[.slice la l.length lc, .slice ma named.length mc] 36)
              have hxA := heap_new wr (.cells #[.slice la l.length lc, .slice ma named.length mc] 36)
              have hcc := Concat2_any _ _ l named _ (HL.out.below (ext_trans hbw hbA)) (HM.out.below (ext_trans hbw hbA)) hmn _ hxA
              go_upto_region 16 with fail
              go_wp2_with fail
              refine hcc.mono ?_
              rintro e w6 ⟨cv, rfl, hcv, hb6⟩
              replace hb6 := ext_trans hbA hb6
              clear hcc hxA hbA
              have hif := IndexFuncV_any cv (l ++ named) w6 (RowS.of_own hcv)
              clear hcv
              go_wp2_with fail
              refine hif.mono ?_
              rintro e w7 ⟨rfl, hb7⟩
              replace hb7 := ext_trans hb6 hb7
              replace hbw := ext_trans hbw hb7
              replace hx1 := (hb7.block _ (box_lt hx1)).trans hx1
              replace hx2 := (hb7.block _ (box_lt hx2)).trans hx2
              replace hx3 := (hb7.block _ (box_lt hx3)).trans hx3
              clear hif hb6 hb7 hx1a hx1b hx1c
              cases hfi : (l ++ named).findIdx? isUV with
              | some k =>
                have HR : Hid (bindFF ps ds.length l names.length named = (18, (k : Int))) := by unfold Hid; rw [HB4.out, hfi]
                clear hfi HB4
                unfold optI
                simp only
                go_wp2_with fail
                refine (afault_any _ _ _).mono ?_
                rintro e w8 ⟨rfl, hb6⟩
                simp only [faultV]
                replace hx2 := (hb6.block _ (box_lt hx2)).trans hx2
                replace hx3 := (hb6.block _ (box_lt hx3)).trans hx3
                obtain ⟨q0, q1, q2, q3, qf, ql⟩ := box4 hx2
                obtain ⟨r0, r1, r2, r3⟩ := box2 hx3
                have f0 := qf 0
                have f1 := qf 1
                have f2 := qf 2
                have f3 := qf 3
                clear qf
                go_wp2
                obtain ⟨s1, s2⟩ := res_set hx2 hx3 hN12 (.slice none 0 0) (.slice none 0 0) (.slice none 0 0) (.slice none 0 0) (.int .i64 18) (.int .i64 k)
                obtain ⟨t0, t1, t2, t3, -, -⟩ := box4 s1
                obtain ⟨y0, y1, -, -⟩ := box2 s2
                refine bodyPost_ret (v := .tuple #[nilBd, .string ⟨#[]⟩, faultV 18 k]) (by simp [results, Try.results18, go_sem, t0, t1, t2, t3, y0, y1, nilBd, faultV]) rfl ?_
                exact BindPost.bad HR.out (by decide) (below_res (ext_trans hbw hb6) (Nat.le_of_lt hN1) hN02 _ _ _ _ _ _)
              | none =>
                have HB5 : Hid ((bindFF ps ds.length l names.length named).1 = 0) := by unfold Hid; rw [HB4.out, hfi]
                clear hfi HB4
                unfold optI
                go_upto_region 19 with fail
                clear n51 n15 n52 n25
                obtain ⟨i0, hii, hz0, hz1, hz2⟩ := info_parts infoVal
                have hV7 := Lib.hid (HV.out.below hbw)
                have hD7 := Lib.hid (HD.out.below hbw)
                have hL7 := Lib.hid (HL.out.below hbw)
                have hN7 := Lib.hid (HN.out.below hbw)
                have hM7 := Lib.hid (HM.out.below hbw)
                clear HV HD HL HN HM
                have hl1 := box_lt hx1
                have hl2 := box_lt hx2
                have hl3 := box_lt hx3
                have hbA := ext_alloc w7 (bdO (.slice pa ps.length pc) fn (.slice none 0 0) (.slice none 0 0) (.slice none 0 0) (.slice none 0 0))
                have hxA := heap_new w7 (bdO (.slice pa ps.length pc) fn (.slice none 0 0) (.slice none 0 0) (.slice none 0 0) (.slice none 0 0))
                have HRR := Lib.hid (bindF_cont ps ds l (names.zip named))
                have hNew : w7.heap.size ≤ w7.heap.size := Nat.le_refl _
                unfold bdO at hbA
                go_upto_region 20 with fail
                go_wp2
                go_loopg [85] ps.length (fun q s85 wr => ∃ k : Nat, ∃ vv, k ≤ ps.length ∧ ps.length - k ≤ q ∧ s85 = .int .i64 k ∧ wr.heap[w7.heap.size]? = some (bdO (.slice pa ps.length pc) fn vv (.slice none 0 0) (.slice none 0 0) (.slice none 0 0)) ∧ wr.ownsRow w7.heap.size 58 7 vv k ((List.replicate k unbV).flatMap valC) ∧ Below w7.heap.size w7 wr)
                case atStart => exact ⟨0, .slice none 0 0, Nat.zero_le _, by omega, rfl, hxA, World.ownsRow_nil _ _ _ _, hbA⟩
                case round =>
                  clear hbA hxA
                  obtain ⟨k2, vv, hk, hq, rfl, hN, hown, hb⟩ := hrel
                  by_cases hlt : k2 < ps.length
                  · unfold bdO at hN
                    have c2 := box_cell hN 2
                    have d2 := box_frozen hN 2
                    simp only [List.getElem?_toArray, List.getElem?_cons_zero, List.getElem?_cons_succ] at c2
                    obtain ⟨va, vc, rfl⟩ := own_isSlice hown
                    have hNB : (Value.slice va k2 vc).ownBlock ≠ some w7.heap.size := own_box hown hN (by decide)
                    have hNl := box_lt hN
                    go_wp2_with (at_builtin; refine wpList_append_own _ rfl _ _ 36 rfl w7.heap.size 58 i0 (Value.agg #[.int .i64 0, .bool false, .slice none 0 0, .bool false, .slice none 0 0, .string ⟨#[]⟩, .int .i64 0]) 7 96 Try.underlying36 hii hz0 hz1 hz2 rfl (by decide) _ _ _ rfl (hown.alloc _) ⟨wr.heap.size, 0, none⟩ 1 1 (valC unbV) rfl ?c1 ?c2 ?c3 ?c4 ?c5 ?c6 ?_)
                    case c1 => rfl
                    case c2 => exact (World.news_of_block (cs := (valC unbV).toArray) (t := 58) (fr := (0, 0)) (heap_alloc_new wr _))
                    case c3 => simp [Value.oneCell', valC]
                    case c4 => rw [maxLen_eq']; omega
                    case c5 => omega
                    case c6 => have := hb.size; simp; omega
                    intro v' w2 hown2 hgr2 _
                    obtain ⟨va2, vc2, rfl⟩ := own_isSlice hown2
                    have hbA := ext_alloc wr (valO unbV)
                    have hbB : Below w7.heap.size w7 w2 := (hb.alloc hb.size _).grown hgr2 (by have := hb.size; simp; omega) (fun q hq => (hown.lt q hq).1)
                    have hN2' := (hgr2.block w7.heap.size (by simp; omega) (Ne.symm hNB)).trans ((Below.heap_alloc _ _ _ hNl).trans hN)
                    rw [← rep_succ] at hown2
                    have c2 := box_cell hN2' 2
                    have d2 := box_frozen hN2' 2
                    simp only [List.getElem?_toArray, List.getElem?_cons_zero, List.getElem?_cons_succ] at c2
                    have hNB2 : (Value.slice va2 (k2 + 1) vc2).ownBlock ≠ some w7.heap.size := own_box hown2 hN2' (by decide)
                    have hset := bdO_set2 hN2' (.slice va2 (k2 + 1) vc2)
                    clear hN hown hb hgr2 hbA
                    go_wp2
                    go_roundg (ps.length - (k2 + 1))
                    case measure => omega
                    case rel => exact ⟨k2 + 1, _, by omega, by omega, by go_num, hset, hown2.kept (grown_setC _ _ _ _) (.inr hNB2), hbB.setCell (Nat.le_refl _) _⟩
                  · have hk' : k2 = ps.length := by omega
                    subst hk'
                    have hposm : (List.replicate ps.length unbV) = valsAtN l ps.length 0 := by simp [valsAtN]
                    rw [hposm] at hown
                    have hy1 := (hb.block _ hl1).trans hx1
                    have hx1a := box_cell hy1 0
                    have hx1b := box_cell hy1 1
                    have hx1c := box_cell hy1 2
                    simp only [List.getElem?_toArray, List.getElem?_cons_zero, List.getElem?_cons_succ] at hx1a hx1b hx1c
                    have hpos := positional_any _ _ vv fn ps l w7.heap.size w7 wr hV7.out hL7.out hb (Nat.le_refl _) (by omega) h12 hfn hN hown
                    clear hposm hq hk
                    go_wp2_with fail
                    refine hpos.mono ?_
                    rintro e w9 ⟨rv, rfl, hN9, hvv9, hrv9, hd1, hb9⟩
                    clear hpos hN hown hb hx1a hx1b hx1c hy1
                    go_upto_region 25 with fail
                    have hst : LoopSt w7 w9 w7.heap.size (.slice pa ps.length pc) fn ps ds vv rv (startRest ps l) (bindF unbV isUV ps ds l (names.zip named)) 0 ((names.zip named).drop 0) (posT fn ps l) := by
                      unfold LoopSt
                      rw [HRR.out]
                      by_cases hm : startRest ps l ≠ [] ∧ starOk ps = false
                      · rw [if_pos hm]
                        have hp : posT fn ps l = msgT fn .many := by unfold posT; rw [if_pos hm]; rfl
                        rw [hp]
                        exact .inl ⟨msgT_ne _ _, _, rfl, rfl⟩
                      · rw [if_neg hm]
                        have hp : posT fn ps l = ⟨#[]⟩ := by unfold posT; rw [if_neg hm]
                        rw [hp]
                        refine .inr ⟨⟨startV unbV ps l, [], []⟩, .slice none 0 0, .slice none 0 0, rfl, rfl, Nat.le_refl _, Nat.le_refl _, ⟨hN9, Nat.le_refl _, ?_, hvv9, hrv9, World.ownsRow_nil _ _ _ _, World.ownsRow_nil _ _ _ _, hd1, fun _ _ => by simp [Value.ownBlock], fun _ _ => by simp [Value.ownBlock], hb9⟩⟩
                        have := lead_le ps
                        simp [startV]; omega
                    have hst2 := Lib.hid hst
                    clear hst hN9 hvv9 hrv9 hd1 HRR
                    generalize hRRe : bindF unbV isUV ps ds l (names.zip named) = RR at *
                    have HRE := Lib.hid hRRe
                    clear hRRe
                    generalize posT fn ps l = t0 at *
                    have hy1 := (hb9.block _ hl1).trans hx1
                    have hx1b := box_cell hy1 1
                    simp only [List.getElem?_toArray, List.getElem?_cons_zero, List.getElem?_cons_succ] at hx1b
                    have hzl : (names.zip named).length = names.length := by rw [List.length_zip]; have := HNM.out; omega
                    have HZL := Lib.hid hzl
                    clear hzl
                    go_wp2
                    clear hx1b hy1
                    go_loopg [17, 107] names.length (fun q s17 s107 wx => ∃ k : Nat, ∃ t, k ≤ names.length ∧ names.length - k ≤ q ∧ s107 = .int .i64 k ∧ s17 = .string t ∧ Hid (LoopSt w7 wx w7.heap.size (.slice pa ps.length pc) fn ps ds vv rv (startRest ps l) RR k ((names.zip named).drop k) t) ∧ Below w7.heap.size w7 wx)
                    case atStart => exact ⟨0, t0, Nat.zero_le _, by omega, rfl, rfl, hst2, hb9⟩
                    case round =>
                      clear hst2 hb9
                      obtain ⟨k3, t, hk3, hq3, rfl, rfl, hst, hbx⟩ := hrel
                      by_cases hlt3 : k3 < names.length
                      · obtain ⟨ax, cx, hee, _, _, hcc⟩ := hN7.out.below hbx
                        simp only [Value.slice.injEq, true_and] at hee
                        obtain ⟨rfl, rfl⟩ := hee
                        obtain ⟨bn, on, rfl, hnc⟩ := hcc k3 hlt3
                        clear hcc
                        have hdrop : (names.zip named).drop k3 = (names[k3], named[k3]'(by have := HNM.out; omega)) :: (names.zip named).drop (k3 + 1) := by
                          rw [List.drop_eq_getElem_cons (by rw [HZL.out]; exact hlt3), List.getElem_zip]
                        have hns := HNS.out names[k3] (List.getElem_mem hlt3)
                        have hst3 := hst.out
                        rw [hdrop] at hst3
                        have HST := Lib.hid hst3
                        clear hst hst3 hdrop
                        rcases HST.out with ⟨hte, m, hRR, htm⟩ | ⟨st, nv, mv, htt, hRR, hnl3, hml3, hBA⟩
                        · have HRR := Lib.hid hRR
                          have HTM := Lib.hid htm
                          clear hRR htm HST
                          generalize names[k3] = nm at *
                          go_wp2
                          go_roundg (names.length - (k3 + 1))
                          case measure => omega
                          case rel => exact ⟨k3 + 1, t, by omega, by omega, by go_num, rfl, .inl ⟨hte, m, HRR.out, HTM.out⟩, hbx⟩
                        · subst htt
                          have HRR := Lib.hid hRR
                          have hnm3 : k3 < named.length := by have := HNM.out; omega
                          have hy1 := (hbx.block _ hl1).trans hx1
                          have hx1c := box_cell hy1 2
                          simp only [List.getElem?_toArray, List.getElem?_cons_zero, List.getElem?_cons_succ] at hx1c
                          obtain ⟨b, off, rfl, z0, z1, z2, z3, z4, z5, z6⟩ := ValsAt.at (hM7.out.below hbx) hnm3
                          have hcall := named_any _ vv rv nv mv fn names[k3] ps st (startRest ps l) named[k3] w7.heap.size w7 wr hV7.out hBA hfn hns (by omega) (by omega)
                          unfold valA at hcall
                          clear HST hRR hBA
                          generalize names[k3] = nm at *
                          generalize named[k3] = x at *
                          obtain ⟨k', n', na', nl', nc', d', da', dl', dc', s', r'⟩ := x
                          simp only at z0 z1 z2 z3 z4 z5 z6 hcall
                          have HC := Lib.hid hcall
                          clear hcall
                          go_wp2_with fail
                          refine HC.out.mono ?_
                          rintro e w10 hpost
                          have HP := Lib.hid hpost
                          clear hpost HC z0 z1 z2 z3 z4 z5 z6 hx1c hy1
                          rcases HP.out with ⟨m, hstep, rfl, hb10⟩ | ⟨st', nv', mv', hstep, rfl, hBA'⟩
                          · have HR := Lib.hid (show RR = .inl m by rw [HRR.out]; unfold namesGo; rw [hstep]; rfl)
                            have HTN := msgT_ne fn m
                            clear hstep HP HRR
                            have HT2 := Lib.hid (show msgT fn m = msgT fn m from rfl)
                            generalize hmm : msgT fn m = t2 at *
                            have HMM := Lib.hid hmm
                            clear hmm
                            go_wp2
                            go_roundg (names.length - (k3 + 1))
                            case measure => omega
                            case rel => exact ⟨k3 + 1, t2, by omega, by omega, by go_num, rfl, .inl ⟨HTN, m, HR.out, HMM.out.symm⟩, hb10⟩
                          · have HR := Lib.hid (show RR = contF ps ds (startRest ps l) (namesGo unbV isUV ps st' ((names.zip named).drop (k3 + 1))) by rw [HRR.out]; conv => { lhs; unfold namesGo }; rw [hstep])
                            have hlen := step_len hstep
                            have HBA := Lib.hid hBA'
                            clear hstep HP HRR hBA'
                            go_wp2
                            go_roundg (names.length - (k3 + 1))
                            case measure => omega
                            case rel => exact ⟨k3 + 1, _, by omega, by omega, by go_num, rfl, .inr ⟨st', nv', mv', rfl, HR.out, by omega, by omega, HBA.out⟩, HBA.out.below⟩
                      · have hk' : k3 = names.length := by omega
                        have hdn : (names.zip named).drop k3 = [] := List.drop_of_length_le (by rw [HZL.out]; omega)
                        have hst3 := hst.out
                        rw [hdn] at hst3
                        have HST := Lib.hid hst3
                        clear hst hst3 hdn hk'
                        rcases HST.out with ⟨hte, m, hRR, htm⟩ | ⟨st, nv, mv, htt, hRR, hnl3, hml3, hBA⟩
                        · skip
                          have HTM := Lib.hid htm
                          have HR := Lib.hid hRR
                          clear hRR htm HST
                          have hy2 := (hbx.block _ hl2).trans hx2
                          have hy3 := (hbx.block _ hl3).trans hx3
                          obtain ⟨q0, q1, q2, q3, qf, ql⟩ := box4 hy2
                          obtain ⟨r0, r1, r2, r3⟩ := box2 hy3
                          have f0 := qf 0
                          have f1 := qf 1
                          have f2 := qf 2
                          have f3 := qf 3
                          clear qf
                          go_wp2
                          obtain ⟨s1, s2⟩ := res_set hy2 hy3 hN12 (.slice none 0 0) (.slice none 0 0) (.slice none 0 0) (.slice none 0 0) (.int .i64 0) (.int .i64 0)
                          obtain ⟨t0, t1, t2, t3, -, -⟩ := box4 s1
                          obtain ⟨y0, y1, -, -⟩ := box2 s2
                          refine bodyPost_ret (v := .tuple #[nilBd, .string t, faultV 0 0]) (by simp [results, Try.results18, go_sem, t0, t1, t2, t3, y0, y1, nilBd, faultV]) rfl ?_
                          exact ⟨below_res (hbw.trans (hbx.mono hbw.size)) (Nat.le_of_lt hN1) hN02 _ _ _ _ _ _, .inr ⟨HB5.out, .inl ⟨m, HRE.out.trans HR.out, by rw [HTM.out]⟩⟩⟩
                        · subst htt
                          have HRR := Lib.hid hRR
                          have hrest := rest_any _ _ vv rv nv mv fn ps ds st.vals w7.heap.size w7 wr hV7.out hD7.out hBA.below h12 (HDS.out.trans HSN.out.symm) HK.out hfn HSZ.out hBA.len hBA.box hBA.vals
                          have HBA := Lib.hid hBA
                          have HC := Lib.hid hrest
                          clear hBA hrest hRR HST
                          go_wp2_with fail
                          refine HC.out.mono ?_
                          rintro e w10 hpost
                          have HP := Lib.hid hpost
                          clear hpost HC
                          rcases HP.out with ⟨s, hstep, rfl, hb10⟩ | ⟨vals', hstep, rfl, hN10, hv10, hvl10, hg10, hb10⟩
                          · have HR := Lib.hid (show RR = .inl (.needs s) by rw [HRR.out]; unfold namesGo contF; simp only; rw [hstep])
                            have HTN : (needsT fn s).toList.isEmpty = false := msgT_ne fn (.needs s)
                            have HTM := Lib.hid (show msgT fn (.needs s) = needsT fn s from rfl)
                            clear HP hstep HRR
                            generalize needsT fn s = t at *
                            have hy2 := (hb10.block _ hl2).trans hx2
                            have hy3 := (hb10.block _ hl3).trans hx3
                            obtain ⟨q0, q1, q2, q3, qf, ql⟩ := box4 hy2
                            obtain ⟨r0, r1, r2, r3⟩ := box2 hy3
                            have f0 := qf 0
                            have f1 := qf 1
                            have f2 := qf 2
                            have f3 := qf 3
                            clear qf
                            go_wp2
                            obtain ⟨s1, s2⟩ := res_set hy2 hy3 hN12 (.slice none 0 0) (.slice none 0 0) (.slice none 0 0) (.slice none 0 0) (.int .i64 0) (.int .i64 0)
                            obtain ⟨t0, t1, t2, t3, -, -⟩ := box4 s1
                            obtain ⟨y0, y1, -, -⟩ := box2 s2
                            refine bodyPost_ret (v := .tuple #[nilBd, .string t, faultV 0 0]) (by simp [results, Try.results18, go_sem, t0, t1, t2, t3, y0, y1, nilBd, faultV]) rfl ?_
                            exact ⟨below_res (hbw.trans (hb10.mono hbw.size)) (Nat.le_of_lt hN1) hN02 _ _ _ _ _ _, .inr ⟨HB5.out, .inl ⟨_, HRE.out.trans HR.out, by rw [HTM.out]⟩⟩⟩
                          · have HR := Lib.hid (show RR = .inr ({ st with vals := vals' }, startRest ps l) by rw [HRR.out]; unfold namesGo contF; simp only; rw [hstep])
                            clear HP hstep HRR
                            have hr10 := HBA.out.rest.kept hg10 (apart_of HBA.out.d1)
                            have hn10 := HBA.out.names.kept hg10 (own_apart HBA.out.names HBA.out.vals (by decide))
                            have hm10 := HBA.out.named.kept hg10 (apart_of HBA.out.d2)
                            obtain ⟨ra, rc, rfl⟩ := own_isSlice hr10
                            obtain ⟨na2, nc2, rfl⟩ := own_isSlice hn10
                            obtain ⟨ma2, mc2, rfl⟩ := own_isSlice hm10
                            obtain ⟨va2, vc2, rfl⟩ := own_isSlice hv10
                            unfold bdO at hN10
                            have c2 := box_cell hN10 2
                            have c3 := box_cell hN10 3
                            have c4 := box_cell hN10 4
                            have c5 := box_cell hN10 5
                            simp only [List.getElem?_toArray, List.getElem?_cons_zero, List.getElem?_cons_succ] at c2 c3 c4 c5
                            have hy2 := (hb10.block _ hl2).trans hx2
                            have hy3 := (hb10.block _ hl3).trans hx3
                            have HVL := Lib.hid hvl10
                            clear hg10 HBA hvl10
                            obtain ⟨q0, q1, q2, q3, qf, ql⟩ := box4 hy2
                            obtain ⟨r0, r1, r2, r3⟩ := box2 hy3
                            have f0 := qf 0
                            have f1 := qf 1
                            have f2 := qf 2
                            have f3 := qf 3
                            clear qf
                            go_wp2
                            obtain ⟨s1, s2⟩ := res_set hy2 hy3 hN12 (.slice va2 ps.length vc2) (.slice ra (startRest ps l).length rc) (.slice na2 st.names.length nc2) (.slice ma2 st.named.length mc2) (.int .i64 0) (.int .i64 0)
                            obtain ⟨t0, t1, t2, t3, -, -⟩ := box4 s1
                            obtain ⟨y0, y1, -, -⟩ := box2 s2
                            refine bodyPost_ret (v := .tuple #[.agg #[.slice va2 ps.length vc2, .slice ra (startRest ps l).length rc, .slice na2 st.names.length nc2, .slice ma2 st.named.length mc2], .string ⟨#[]⟩, faultV 0 0]) (by simp [results, Try.results18, go_sem, t0, t1, t2, t3, y0, y1, faultV]) rfl ?_
                            refine ⟨below_res (hbw.trans (hb10.mono hbw.size)) (Nat.le_of_lt hN1) hN02 _ _ _ _ _ _, .inr ⟨HB5.out, .inr ⟨_, _, _, _, _, _, HRE.out.trans HR.out, rfl, ?_, ?_, ?_, ?_⟩⟩⟩
                            · exact RowS.of_own (own_cast (own_res hv10 hl2 hl3 _ _ _ _ _ _) HVL.out.symm rfl)
                            · exact RowS.of_own (own_res hr10 hl2 hl3 _ _ _ _ _ _)
                            · exact names_row (own_res hn10 hl2 hl3 _ _ _ _ _ _)
                            · exact RowS.of_own (own_res hm10 hl2 hl3 _ _ _ _ _ _)
          · have h2c : (((names.length : Nat) : Int) != (named.length : Int)) = true := by rw [bne_iff_ne]; omega
            have HR : Hid (bindFF ps ds.length l names.length named = (9, -3)) := by unfold Hid; rw [HB2.out, if_pos h2]
            clear HB2 h2
            have hx1a := box_cell hx1 0
            have hx1b := box_cell hx1 1
            have hx1c := box_cell hx1 2
            simp only [List.getElem?_toArray, List.getElem?_cons_zero, List.getElem?_cons_succ] at hx1a hx1b hx1c
            go_wp2_with fail
            refine (afault_any _ _ _).mono ?_
            rintro e w6 ⟨rfl, hb6⟩
            simp only [faultV]
            replace hx2 := (hb6.block _ (box_lt hx2)).trans hx2
            replace hx3 := (hb6.block _ (box_lt hx3)).trans hx3
            obtain ⟨q0, q1, q2, q3, qf, ql⟩ := box4 hx2
            obtain ⟨r0, r1, r2, r3⟩ := box2 hx3
            have f0 := qf 0
            have f1 := qf 1
            have f2 := qf 2
            have f3 := qf 3
            clear qf hx1a hx1b hx1c
            go_wp2
            obtain ⟨s1, s2⟩ := res_set hx2 hx3 hN12 (.slice none 0 0) (.slice none 0 0) (.slice none 0 0) (.slice none 0 0) (.int .i64 9) (.int .i64 (-3))
            obtain ⟨t0, t1, t2, t3, -, -⟩ := box4 s1
            obtain ⟨y0, y1, -, -⟩ := box2 s2
            refine bodyPost_ret (v := .tuple #[nilBd, .string ⟨#[]⟩, faultV 9 (-3)]) (by simp [results, Try.results18, go_sem, t0, t1, t2, t3, y0, y1, nilBd, faultV]) rfl ?_
            exact BindPost.bad HR.out (by decide) (below_res (ext_trans hbw hb6) (Nat.le_of_lt hN1) hN02 _ _ _ _ _ _)
        · have h1c : (((ds.length : Nat) : Int) != (sn : Int)) = true := by rw [bne_iff_ne]; omega
          have HR : Hid (bindFF ps ds.length l names.length named = (9, -2)) := by unfold Hid; rw [HB.out, if_pos (fun h => h1 h.symm)]
          clear HB h1
          have hx1a := box_cell hx1 0
          have hx1b := box_cell hx1 1
          have hx1c := box_cell hx1 2
          simp only [List.getElem?_toArray, List.getElem?_cons_zero, List.getElem?_cons_succ] at hx1a hx1b hx1c
          go_wp2_with fail
          refine (afault_any _ _ _).mono ?_
          rintro e w6 ⟨rfl, hb6⟩
          simp only [faultV]
          replace hx2 := (hb6.block _ (box_lt hx2)).trans hx2
          replace hx3 := (hb6.block _ (box_lt hx3)).trans hx3
          obtain ⟨q0, q1, q2, q3, qf, ql⟩ := box4 hx2
          obtain ⟨r0, r1, r2, r3⟩ := box2 hx3
          have f0 := qf 0
          have f1 := qf 1
          have f2 := qf 2
          have f3 := qf 3
          clear qf hx1a hx1b hx1c
          go_wp2
          obtain ⟨s1, s2⟩ := res_set hx2 hx3 hN12 (.slice none 0 0) (.slice none 0 0) (.slice none 0 0) (.slice none 0 0) (.int .i64 9) (.int .i64 (-2))
          obtain ⟨t0, t1, t2, t3, -, -⟩ := box4 s1
          obtain ⟨y0, y1, -, -⟩ := box2 s2
          refine bodyPost_ret (v := .tuple #[nilBd, .string ⟨#[]⟩, faultV 9 (-2)]) (by simp [results, Try.results18, go_sem, t0, t1, t2, t3, y0, y1, nilBd, faultV]) rfl ?_
          exact BindPost.bad HR.out (by decide) (below_res (ext_trans hbw hb6) (Nat.le_of_lt hN1) hN02 _ _ _ _ _ _)
  · have hcb : ((parF ps).1 != 0) = true := by simpa using hc
    have HB : Hid (bindFF ps ds.length l names.length named = parF ps) := by unfold Hid bindFF; rw [if_pos hc]
    have HC := Lib.hid hc
    clear hc
    go_wp2
    obtain ⟨q0, q1, q2, q3, qf, ql⟩ := box4 hx2
    obtain ⟨r0, r1, r2, r3⟩ := box2 hx3
    have f0 := qf 0
    have f1 := qf 1
    have f2 := qf 2
    have f3 := qf 3
    clear qf
    go_region
    go_wp2
    obtain ⟨s1, s2⟩ := res_set hx2 hx3 hN12 (.slice none 0 0) (.slice none 0 0) (.slice none 0 0) (.slice none 0 0) (.int .i64 (parF ps).1) (.int .i64 (parF ps).2)
    obtain ⟨t0, t1, t2, t3, -, -⟩ := box4 s1
    obtain ⟨y0, y1, -, -⟩ := box2 s2
    refine bodyPost_ret (v := .tuple #[nilBd, .string ⟨#[]⟩, faultV (parF ps).1 (parF ps).2]) (by simp [results, Try.results18, go_sem, t0, t1, t2, t3, y0, y1, nilBd, faultV]) rfl ?_
    exact BindPost.bad HB.out HC.out (below_res hbb (Nat.le_of_lt hN1) hN02 _ _ _ _ _ _).drew
end Go.Proofs.Ytbickehhnkhabaa
