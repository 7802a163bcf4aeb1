/- Walks: the searches of a binding: IndexFunc over parameters and over values, at, kind. -/
import Derived.Test.YtbickehhnkhabaaArg3b
import Derived.Test.YtbickehhnkhabaaBindSpec
import Derived.Test.YtbickehhnkhabaaVal
namespace Go.Proofs.Ytbickehhnkhabaa
open Go.RowKit

def optI : Option Nat → Int
  | some k => k
  | none => -1

theorem firstFrom_find {α : Type} (l : List α) (p : α → Bool) (q : Nat → Bool) (h : ∀ i (hi : i < l.length), q i = p l[i]) : firstFrom q l.length 0 = optI (l.findIdx? p) := by
  rcases firstFrom_spec q l.length 0 with ⟨hf, hall⟩ | ⟨i, _, hi, hf, hyes, hall⟩
  · rw [hf]
    have : l.findIdx? p = none := by
      rw [List.findIdx?_eq_none_iff]
      intro x hx
      obtain ⟨i, hi, rfl⟩ := List.getElem_of_mem hx
      rw [← h i hi]; exact hall i (Nat.zero_le _) hi
    rw [this]; rfl
  · rw [hf]
    have : l.findIdx? p = some i := by
      rw [List.findIdx?_eq_some_iff_getElem]
      exact ⟨hi, by rw [← h i hi]; exact hyes, fun j hj => by rw [← h j (by omega)]; simpa using hall j (Nat.zero_le _) hj⟩
    rw [this]; rfl

def atD {α : Type} (p : α → Bool) (l : List α) (i : Nat) : Bool := match l[i]? with
  | some x => p x
  | none => false
theorem atD_lt {α : Type} {p : α → Bool} {l : List α} {i : Nat} (h : i < l.length) : atD p l i = p l[i] := by
  unfold atD; rw [List.getElem?_eq_getElem h]

set_option maxRecDepth 100000 in
set_option maxHeartbeats 1000000 in
theorem IndexFuncPg_any (v : Value) (ps : List Par) (p : Par → Bool) (g : Nat) (cp : Value) (w : World) (hv : ParamsAt w v ps)
    (eg : ∀ args w, (callFunc g args).run Try.prog w = .ok (.enter g args) w)
    (hp : ∀ (q : Par) da dc W, Below w.heap.size w W → Calls Try.prog g #[parV q da dc, cp] W fun e W' => e = .returned (.bool (p q)) ∧ Below W.heap.size W W') :
    Calls Try.prog 63 #[v, .func (.func g) #[] #[cp]] w fun e w' =>
      e = .returned (.int .i64 (optI (ps.findIdx? p))) ∧ Below w.heap.size w w' := by
  obtain ⟨a, cap, rfl, hl, hm, hcs⟩ := hv
  have HC := Lib.hid hcs
  have HP := Lib.hid hp
  have HF := Lib.hid (firstFrom_find ps p (atD p ps) (fun i hi => atD_lt hi))
  clear hcs hp
  go_enter Try.func63, Try.ntmps63
  go_wp2
  go_loopg [8] ps.length (fun q s8 wr => ∃ k : Nat, k ≤ ps.length ∧ ps.length - k ≤ q ∧ s8 = .int .i64 k ∧ Below w.heap.size w wr ∧ Hid (firstFrom (atD p ps) ps.length 0 = firstFrom (atD p ps) ps.length k))
  case atStart => exact ⟨0, Nat.zero_le _, by omega, rfl, Below.refl _ _, rfl⟩
  case round =>
    obtain ⟨k, hk, hq, rfl, hb, hi⟩ := hrel
    by_cases hlt : k < ps.length
    · obtain ⟨b, off, da, dc, rfl, z0, z1, z2⟩ := HC.out k hlt
      rw [← hb.cell (p := ⟨b, off + k * 3, none⟩) (World.block_lt_of_cell? _ _ z0)] at z0
      rw [← hb.cell (p := ⟨b, off + k * 3 + 1, none⟩) (World.block_lt_of_cell? _ _ z1)] at z1
      rw [← hb.cell (p := ⟨b, off + k * 3 + 2, none⟩) (World.block_lt_of_cell? _ _ z2)] at z2
      have hcall := HP.out ps[k] da dc wr hb
      have hpk : atD p ps k = p ps[k] := atD_lt hlt
      have hyes := Lib.hid (fun h => firstFrom_yes (p := atD p ps) hlt (by rw [hpk]; exact h))
      have hno := Lib.hid (fun h => firstFrom_no (p := atD p ps) hlt (by rw [hpk]; exact h))
      unfold parV at hcall
      clear hpk
      cases hq2 : p ps[k] with
      | true =>
        rw [hq2] at hcall
        have HY := Lib.hid (hyes.out hq2)
        clear hq2 hyes hno
        generalize ps[k].k = pk at *
        generalize ps[k].n = pn at *
        generalize ps[k].s = nm at *
        go_wp2_with (go_at_fn g; refine hcall.mono ?_; rintro e w' ⟨rfl, hb'⟩)
        go_ret
        exact ⟨ret_int (by rw [← HF.out, hi.out, HY.out]), ext_trans hb hb'⟩
      | false =>
        rw [hq2] at hcall
        have HN := Lib.hid (hno.out hq2)
        clear hq2 hyes hno
        generalize ps[k].k = pk at *
        generalize ps[k].n = pn at *
        generalize ps[k].s = nm at *
        go_wp2_with (go_at_fn g; refine hcall.mono ?_; rintro e w' ⟨rfl, hb'⟩)
        go_roundg (ps.length - (k + 1))
        case measure => omega
        case rel => exact ⟨k + 1, by omega, by omega, by go_num, ext_trans hb hb', by unfold Hid; rw [hi.out, HN.out]⟩
    · go_wp2
      go_ret
      exact ⟨ret_int (by rw [← HF.out, hi.out, firstFrom_end hlt]), hb⟩

set_option maxHeartbeats 1000000 in
theorem atClos_any (q : Par) (da : Option Addr) (dc : Nat) (s : ByteArray) (c : Nat) (w : World) (hc : w.cell? ⟨c, 0, none⟩ = some (.string s)) :
    Calls Try.prog 84 #[parV q da dc, .pointer (some ⟨c, 0, none⟩)] w fun e w' => e = .returned (.bool (sameN s q.s && own q)) ∧ Below w.heap.size w w' := by
  unfold parV
  have hb := ext_alloc w (.cells #[.int .i64 q.k, .string q.s, .slice da q.n dc] 51)
  have hc2 : (w.alloc (.cells #[.int .i64 q.k, .string q.s, .slice da q.n dc] 51)).cell? ⟨c, 0, none⟩ = some (.string s) := by rw [hb.cell (p := ⟨c, 0, none⟩) (World.block_lt_of_cell? _ _ hc)]; exact hc
  unfold sameN own
  cases hs : (q.s.toList == s.toList) with
  | false =>
    go_enter Try.func84, Try.ntmps84
    go_wp2
    go_ret
    exact ⟨ret_bool (by simp), hb⟩
  | true =>
    by_cases h0 : q.k = 0
    · have b0 : (q.k == 0) = true := by simpa using h0
      clear h0
      go_enter Try.func84, Try.ntmps84
      go_wp2
      go_ret
      exact ⟨ret_bool (by simp [b0]), hb⟩
    · have b0 : (q.k == 0) = false := by simpa using h0
      go_enter Try.func84, Try.ntmps84
      go_wp2
      go_ret
      exact ⟨ret_bool (by simp [b0]), hb⟩

set_option maxHeartbeats 1000000 in
theorem kindClos_any (q : Par) (da : Option Addr) (dc : Nat) (k : Int) (c : Nat) (w : World) (hc : w.cell? ⟨c, 0, none⟩ = some (.int .i64 k)) :
    Calls Try.prog 83 #[parV q da dc, .pointer (some ⟨c, 0, none⟩)] w fun e w' => e = .returned (.bool (q.k == k)) ∧ Below w.heap.size w w' := by
  unfold parV
  have hb := ext_alloc w (.cells #[.int .i64 q.k, .string q.s, .slice da q.n dc] 51)
  have hc2 : (w.alloc (.cells #[.int .i64 q.k, .string q.s, .slice da q.n dc] 51)).cell? ⟨c, 0, none⟩ = some (.int .i64 k) := by rw [hb.cell (p := ⟨c, 0, none⟩) (World.block_lt_of_cell? _ _ hc)]; exact hc
  go_enter Try.func83, Try.ntmps83
  go_wp2
  go_ret
  exact ⟨rfl, hb⟩

set_option maxHeartbeats 1000000 in
theorem at_any (ps : List Par) (pv : Value) (N : Nat) (nm : ByteArray) (w : World) (hv : ParamsAt w pv ps) (hN : w.cell? ⟨N, 0, none⟩ = some pv) :
    Calls Try.prog 75 #[.pointer (some ⟨N, 0, none⟩), .string nm] w fun e w' => e = .returned (.int .i64 (optI (atN ps nm))) ∧ Below w.heap.size w w' := by
  have hb := ext_alloc w (.cells #[.string nm] 9)
  have hN2 : (w.alloc (.cells #[.string nm] 9)).cell? ⟨N, 0, none⟩ = some pv := by rw [hb.cell (p := ⟨N, 0, none⟩) (World.block_lt_of_cell? _ _ hN)]; exact hN
  have hx : (w.alloc (.cells #[.string nm] 9)).cell? ⟨w.heap.size, 0, none⟩ = some (.string nm) := (box1 (heap_new w (.cells #[.string nm] 9))).1
  have hv2 := hv.below hb
  have eg := enters_of Try.func84 (by kernel_rfl) rfl
  have h := IndexFuncPg_any pv ps (fun p => sameN nm p.s && own p) _ (.pointer (some ⟨w.heap.size, 0, none⟩)) _ hv2 eg (fun q da dc W hW => atClos_any q da dc nm w.heap.size W (by rw [hW.cell (p := ⟨w.heap.size, 0, none⟩) (World.block_lt_of_cell? _ _ hx)]; exact hx))
  obtain ⟨av, cv, rfl⟩ := hv.len
  have HR := Lib.hid (show optI (atN ps nm) = optI (ps.findIdx? fun p => sameN nm p.s && own p) from rfl)
  clear hv hv2 hx hN
  generalize optI (ps.findIdx? fun p => sameN nm p.s && own p) = z at *
  go_enter Try.func75, Try.ntmps75
  go_wp2_with (go_at_call 63; refine h.mono ?_; rintro e w' ⟨rfl, hb'⟩)
  go_ret
  exact ⟨ret_int HR.out.symm, ext_trans hb hb'⟩

set_option maxHeartbeats 1000000 in
theorem kind_any (ps : List Par) (pv : Value) (N : Nat) (k : Int) (w : World) (hv : ParamsAt w pv ps) (hN : w.cell? ⟨N, 0, none⟩ = some pv) :
    Calls Try.prog 74 #[.pointer (some ⟨N, 0, none⟩), .int .i64 k] w fun e w' => e = .returned (.int .i64 (optI (ps.findIdx? fun p => p.k == k))) ∧ Below w.heap.size w w' := by
  have hb := ext_alloc w (.cells #[.int .i64 k] 3)
  have hN2 : (w.alloc (.cells #[.int .i64 k] 3)).cell? ⟨N, 0, none⟩ = some pv := by rw [hb.cell (p := ⟨N, 0, none⟩) (World.block_lt_of_cell? _ _ hN)]; exact hN
  have hx : (w.alloc (.cells #[.int .i64 k] 3)).cell? ⟨w.heap.size, 0, none⟩ = some (.int .i64 k) := (box1 (heap_new w (.cells #[.int .i64 k] 3))).1
  have hv2 := hv.below hb
  have eg := enters_of Try.func83 (by kernel_rfl) rfl
  have h := IndexFuncPg_any pv ps (fun p => p.k == k) _ (.pointer (some ⟨w.heap.size, 0, none⟩)) _ hv2 eg (fun q da dc W hW => kindClos_any q da dc k w.heap.size W (by rw [hW.cell (p := ⟨w.heap.size, 0, none⟩) (World.block_lt_of_cell? _ _ hx)]; exact hx))
  obtain ⟨av, cv, rfl⟩ := hv.len
  clear hv hv2 hx hN
  generalize optI (ps.findIdx? fun p => p.k == k) = z at *
  go_enter Try.func74, Try.ntmps74
  go_wp2_with (go_at_call 63; refine h.mono ?_; rintro e w' ⟨rfl, hb'⟩)
  go_ret
  exact ⟨rfl, ext_trans hb hb'⟩

set_option maxHeartbeats 1000000 in
theorem unbClos_any (x : Val) (w : World) :
    Calls Try.prog 45 #[valA x] w fun e w' => e = .returned (.bool (isUV x)) ∧ Below w.heap.size w w' := by
  unfold valA isUV
  go_enter Try.func45, Try.ntmps45
  go_wp2
  go_ret
  exact ⟨rfl, ext_alloc w _⟩

set_option maxRecDepth 100000 in
set_option maxHeartbeats 1000000 in
theorem IndexFuncV_any (v : Value) (l : List Val) (w : World) (hv : ValsAt w v l) :
    Calls Try.prog 44 #[v, .func (.func 45) #[] #[]] w fun e w' =>
      e = .returned (.int .i64 (optI (l.findIdx? isUV))) ∧ Below w.heap.size w w' := by
  obtain ⟨a, cap, rfl⟩ := hv.isSlice
  have HV := Lib.hid hv
  have hle : l.length ≤ cap ∧ cap ≤ 9223372036854775807 := by
    obtain ⟨a', c', e, h1, ⟨h2, _⟩, _⟩ := hv
    simp only [Value.slice.injEq, true_and] at e
    omega
  have HF := Lib.hid (firstFrom_find l isUV (atD isUV l) (fun i hi => atD_lt hi))
  clear hv
  go_enter Try.func44, Try.ntmps44
  go_wp2
  go_loopg [8] l.length (fun q s8 wr => ∃ k : Nat, k ≤ l.length ∧ l.length - k ≤ q ∧ s8 = .int .i64 k ∧ Below w.heap.size w wr ∧ Hid (firstFrom (atD isUV l) l.length 0 = firstFrom (atD isUV l) l.length k))
  case atStart => exact ⟨0, Nat.zero_le _, by omega, rfl, Below.refl _ _, rfl⟩
  case round =>
    obtain ⟨k, hk, hq, rfl, hb, hi⟩ := hrel
    by_cases hlt : k < l.length
    · obtain ⟨b, off, rfl, z0, z1, z2, z3, z4, z5, z6⟩ := ValsAt.at (HV.out.below hb) hlt
      have hcall := unbClos_any l[k] wr
      have hpk : atD isUV l k = isUV l[k] := atD_lt hlt
      have hyes := Lib.hid (fun h => firstFrom_yes (p := atD isUV l) hlt (by rw [hpk]; exact h))
      have hno := Lib.hid (fun h => firstFrom_no (p := atD isUV l) hlt (by rw [hpk]; exact h))
      unfold valA at hcall
      clear hpk
      cases hq2 : isUV l[k] with
      | true =>
        rw [hq2] at hcall
        have HY := Lib.hid (hyes.out hq2)
        clear hq2 hyes hno
        generalize l[k] = x at *
        go_wp2_with fail
        refine hcall.mono ?_
        rintro e w' ⟨rfl, hb'⟩
        go_wp2
        go_ret
        exact ⟨ret_int (by rw [← HF.out, hi.out, HY.out]), ext_trans hb hb'⟩
      | false =>
        rw [hq2] at hcall
        have HN := Lib.hid (hno.out hq2)
        clear hq2 hyes hno
        generalize l[k] = x at *
        go_wp2_with fail
        refine hcall.mono ?_
        rintro e w' ⟨rfl, hb'⟩
        go_wp2
        go_roundg (l.length - (k + 1))
        case measure => omega
        case rel => exact ⟨k + 1, by omega, by omega, by go_num, ext_trans hb hb', by unfold Hid; rw [hi.out, HN.out]⟩
    · go_wp2
      go_ret
      exact ⟨ret_int (by rw [← HF.out, hi.out, firstFrom_end hlt]), hb⟩
end Go.Proofs.Ytbickehhnkhabaa
