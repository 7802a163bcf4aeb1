/- Part 6 of the proof. -/
import Derived.Test.YtnkjenaanjnihaaGreatDoorV5


/- Abstract execution: windows of a row that turns. Nothing here speaks of the program. -/
namespace Go.Proofs.YtnkjenaanjnihaaGreatDoor
open Go.RowKit
section
variable {P : Program} {tm : List (Nat × TV)} {dst : Option Tmp} {ty : TypeId} {pos : String} {aft : Array Edge} {gd : Option (Nat × Bool)}
theorem u_lenMw {x : Operand} {t : TypeId} {sz k q i z n : Nat} (hT : SlT P t sz) (hx : Opd tm x (.mw k q i z n)) :
    UOp P ⟨dst, .call { callee := .builtin .len, args := #[x], argTypes := #[t] }, ty, pos, aft, gd⟩ tm [] (.pv (PV.lit (.int .i64 n))) [] :=
  UOp.pure fun w s g a ht => by
    obtain ⟨e, hu, he⟩ := hT.h
    have h := Opd.eval ht hx
    rw [TV.P] at h
    obtain ⟨G, c, _, h1, _⟩ := h
    exact ⟨.int .i64 n, by simp [execOp, resolve, invoke, builtin, h1, Builtin.len_, run_underlying hu, goInt], rfl⟩
theorem u_indexMw {x y : Operand} {t : TypeId} {sz k q i n : Nat} {ik : IntKind} {j : Int} (hT : SlT P t sz) (hx : Opd tm x (.mw k q i sz n)) (hy : Opd tm y (.pv (PV.lit (.int ik j)))) (h0 : 0 ≤ j) (hr : j.toNat < n) :
    UOp P ⟨dst, .indexAddr t x y, ty, pos, aft, gd⟩ tm [] (.mp k q ((i + j.toNat) * sz + 0)) [] :=
  UOp.pure fun w s g a ht => by
    obtain ⟨e, hu, he⟩ := hT.h
    have h := Opd.eval ht hx
    rw [TV.P] at h
    obtain ⟨G, c, h1, h2, h3⟩ := h
    have h7 := Opd.lit ht hy
    refine ⟨.pointer (some ⟨G, i * sz + j.toNat * sz, none⟩), exec_value (s := Instr.indexAt t (a.eval x) (a.eval y)) ?_, ?_⟩
    · have hb : (0 ≤ j ∧ j < (n : Int)) := ⟨h0, by omega⟩
      rw [h2, h7]
      simp only [Instr.indexAt, asIntOf, Sem.run_bind, Sem.run_pure, Result.andThen_ok, run_underlying hu, hb, and_self, if_true, sizeOf_run he, Addr.add_mid]
    · rw [TV.P]
      exact ⟨G, c, h1, by rw [Nat.add_zero, Nat.add_mul]⟩
theorem bnds_run {w : World} {s : Sb} {g : Gh} {a : Act} {lo hi : Option Operand} {m n len cap : Nat} (ht : TmOk w s g tm a) (h1 : Bnd tm lo 0 (m : Int)) (h2 : Bnd tm hi len (n : Int)) (hmn : m ≤ n) (hn : n ≤ len) (h4 : len ≤ cap) :
    (Instr.sliceBounds true len cap (lo.map a.eval) (hi.map a.eval) none).run P w = .ok (m, n, cap) w := by
  have hlo : ∀ h' : Nat, m ≤ h' → (match lo.map a.eval with | some v => Instr.sliceBound v h' .sliceB | none => (pure 0 : Sem Nat)).run P w = .ok m w := by
    intro h' hm
    cases lo with
    | none => have : (m : Int) = 0 := h1
              have : m = 0 := by omega
              subst this; rfl
    | some o =>
      obtain ⟨k, hk⟩ := h1
      have hv := Opd.lit ht hk
      simp only [Option.map_some, hv]
      rw [run_sliceBound w k _ h' _ (by omega) (by omega)]
      rfl
  have hhi : (match hi.map a.eval with | some v => Instr.sliceBound v cap .sliceAcap | none => (pure len : Sem Nat)).run P w = .ok n w := by
    cases hi with
    | none => have : (n : Int) = len := h2
              have : n = len := by omega
              subst this; rfl
    | some o =>
      obtain ⟨k, hk⟩ := h2
      have hv := Opd.lit ht hk
      simp only [Option.map_some, hv]
      rw [run_sliceBound w k _ cap _ (by omega) (by omega)]
      rfl
  have hlo' := hlo n hmn
  unfold Instr.sliceBounds
  cases lo <;> cases hi <;> simp_all
theorem u_sliceMo {x : Operand} {t : TypeId} {sz k q : Nat} {lo hi : Option Operand} {l h : Int} (hT : SlT P t sz) (hx : Opd tm x (.mo k q)) (h1 : Bnd tm lo 0 l) (h2 : Bnd tm hi q h) (h0 : 0 ≤ l) (hlh : l ≤ h) (hhn : h ≤ q) (hq : l < q) :
    UOp P ⟨dst, .slice t x lo hi none, ty, pos, aft, gd⟩ tm [] (.mw k q l.toNat sz (h.toNat - l.toNat)) [] :=
  UOp.pure fun w s g a ht => by
    obtain ⟨e, hu, he⟩ := hT.h
    have hv := Opd.eval ht hx
    rw [TV.P] at hv
    obtain ⟨g1, g2⟩ := hv
    obtain ⟨m, rfl⟩ := Int.eq_ofNat_of_zero_le h0
    obtain ⟨n, rfl⟩ := Int.eq_ofNat_of_zero_le (by omega : 0 ≤ h)
    simp only [Int.toNat_natCast]
    rcases g2 with ⟨_, rfl⟩ | ⟨G, c, e1, e2, e3⟩
    · omega
    have hb := bnds_run (P := P) (len := q) (cap := c) ht h1 h2 (by omega) (by omega) e2
    refine ⟨.slice (some ⟨G, m * sz, none⟩) (n - m) (c - m), exec_value (s := Instr.sliceAt t (a.eval x) (lo.map a.eval) (hi.map a.eval) none) ?_, ?_⟩
    · rw [e1]
      have hc : c ≠ m := by omega
      simp [Instr.sliceAt, run_underlying hu, Instr.slice, hb, sizeOf_run he, hc, Addr.add_mid]
    · rw [TV.P]
      exact ⟨G, c, by rw [g1, e1], rfl, by omega, by omega, e2, e3⟩
theorem u_sliceMw {x : Operand} {t : TypeId} {sz k q i n0 : Nat} {lo hi : Option Operand} {l h : Int} (hT : SlT P t sz) (hx : Opd tm x (.mw k q i sz n0)) (h1 : Bnd tm lo 0 l) (h2 : Bnd tm hi n0 h) (h0 : 0 ≤ l) (hlh : l ≤ h) (hhn : h ≤ n0) (hq : i + l.toNat < q) :
    UOp P ⟨dst, .slice t x lo hi none, ty, pos, aft, gd⟩ tm [] (.mw k q (i + l.toNat) sz (h.toNat - l.toNat)) [] :=
  UOp.pure fun w s g a ht => by
    obtain ⟨e, hu, he⟩ := hT.h
    have hv := Opd.eval ht hx
    rw [TV.P] at hv
    obtain ⟨G, c, g1, g2, g3, g4, g5, g6⟩ := hv
    obtain ⟨m, rfl⟩ := Int.eq_ofNat_of_zero_le h0
    obtain ⟨n, rfl⟩ := Int.eq_ofNat_of_zero_le (by omega : 0 ≤ h)
    simp only [Int.toNat_natCast] at hq ⊢
    have hb := bnds_run (P := P) (len := n0) (cap := c - i) ht h1 h2 (by omega) (by omega) (by omega)
    refine ⟨.slice (some ⟨G, (i + m) * sz, none⟩) (n - m) (c - (i + m)), exec_value (s := Instr.sliceAt t (a.eval x) (lo.map a.eval) (hi.map a.eval) none) ?_, ?_⟩
    · rw [g2]
      have hc : c - i ≠ m := by omega
      simp [Instr.sliceAt, run_underlying hu, Instr.slice, hb, sizeOf_run he, hc, Addr.add_mid, Nat.add_mul, Nat.sub_sub]
    · rw [TV.P]
      exact ⟨G, c, g1, rfl, by omega, by omega, g5, g6⟩
theorem u_appendMw {x y : Operand} {t e : TypeId} {mo : Bool} {sz k q n : Nat} {rows : List (List PV)} {row : List PV} {d : TV} (hA : AppT P t e sz) (hx : Opd tm x (.mw k q 0 sz n)) (hn : rows.length = q) (hy : Opd tm y d) (hd : ∀ w s g v, d.P w s g v → (PV.sl mo sz [row]).p w s v) (hb : n < q) :
    UOp P ⟨dst, .call { callee := .builtin .append, args := #[x, y], argTypes := #[t, t] }, ty, pos, aft, gd⟩ tm [(k, .mrow e sz rows)] (.mw k q 0 sz (n + 1)) [(k, .mrow e sz (rows.set n row))] := by
  intro w s g a K Q ht hg hK
  subst hn
  obtain ⟨ie, z, hty, hi, hz, hsz, hzs, hpos, hby, hby2⟩ := hA.h
  subst hsz
  have h1 := Opd.eval ht hx
  rw [TV.P] at h1
  obtain ⟨G, c, hgn, hform, h3, h4, h5, h6⟩ := h1
  rw [Nat.zero_mul, Nat.sub_zero] at hform
  have hg1 := hg.one
  obtain ⟨vs, rest, hG, hnc, hcm, hcs, hav, hrow, hsG⟩ := mrow_at hg1 rfl hgn
  obtain ⟨a1, c1, xs, ex, hxl, hx1, hxr, hxp⟩ := PV.sl_src (hd _ _ _ _ (Opd.eval ht hy))
  obtain ⟨_, _, _, _, _, hrz2, _⟩ := hd _ _ _ _ (Opd.eval ht hy)
  have hrl : row.length = ie.size := hrz2 row (by simp)
  have hxs : AllV w s.good row xs := by
    refine AllV.mk (by rw [hxl, hrl]; simp) fun j d v hdj hvj => ?_
    obtain ⟨u, e1, e2⟩ := hxp 0 row j d rfl hdj
    rw [Nat.zero_mul, Nat.zero_add, hvj] at e1
    cases e1
    exact e2
  obtain ⟨b2, off2, ea, hra⟩ := hxr (by simp)
  subst ea
  have hxl1 : xs.length = ie.size := by rw [hxl]; simp
  have hnews : ∀ j u, xs[j]? = some u → w.cell? ((⟨b2, off2, none⟩ : Addr).add j) = some u := fun j u hj => by rw [Addr.add_mid]; exact hra j u hj
  have hvl : vs.length = rows.length * ie.size := by rw [hav.length, flat_len hrow.1]
  have hle : n * ie.size + ie.size ≤ rows.length * ie.size := by
    have := Nat.mul_le_mul_right ie.size (show n + 1 ≤ rows.length by omega)
    rw [Nat.add_mul] at this; omega
  have hfit : n * ie.size + xs.length ≤ (vs ++ rest).toArray.size := by rw [List.size_toArray, List.length_append]; omega
  have hr := run_append_roomK (P := P) w t ty e ie hty hi G n c _ hG ⟨b2, off2, none⟩ 1 c1 xs (by rw [hxl1, Nat.one_mul]) hnews hx1 (by omega) hfit
  have hcut : ((vs ++ rest).toArray.toList.take (n * ie.size) ++ xs ++ (vs ++ rest).toArray.toList.drop (n * ie.size + xs.length)) = (vs.take (n * ie.size) ++ xs ++ vs.drop (n * ie.size + xs.length)) ++ rest := by
    simp only []
    rw [List.take_append_of_le_length (by omega), List.drop_append_of_le_length (by omega), List.append_assoc, List.append_assoc, List.append_assoc]
  rw [hcut] at hr
  unfold Oper.wp
  rw [append_exec (by rw [ex, hform]; exact hr)]
  have hbl : ∀ r : List (List PV), r.length = rows.length → blk g k (.mrow e ie.size r) = some G := fun r hr => by rw [blk_mrow (by rw [hr]; exact hgn)]; rfl
  refine hK _ s g _ (by rw [TV.P]; exact ⟨G, c, hgn, by rw [Nat.zero_mul, Nat.sub_zero], by omega, by omega, h5, h6⟩) (Stp.turn hg (hbl rows rfl) hsG (fun M hM => setRow_other w G M _ hM) (by simp) rfl rfl rfl (fun hex => ?_) (hbl _ (by simp)))
  refine ⟨fun m hm => hg1.1 m (by rw [List.length_set] at hm; exact hm), _, by rw [List.length_set]; exact hgn, .inr ⟨G, c, vs.take (n * ie.size) ++ xs ++ vs.drop (n * ie.size + xs.length), rest, by rw [List.length_set], hG.setRow (by simp only [List.size_toArray, List.length_append, List.length_take, List.length_drop] at *; omega), by rw [List.length_set]; exact hnc, hcm, ?_, ?_, ⟨fun r hr => ?_, fun v hv => ?_⟩, hsG⟩⟩
  · rw [← hcs]
    simp only [List.length_append, List.length_take, List.length_drop]
    omega
  · have e9 : (rows.set n row).flatten = rows.flatten.take (n * ie.size) ++ row ++ rows.flatten.drop (n * ie.size + xs.length) := by rw [flat_set hrow.1 hb hrl, hxl1]
    rw [e9]
    exact (AllV.append (AllV.append (hav.take _) hxs) (hav.drop _)).mono hex.good
  · rcases List.mem_or_eq_of_mem_set hr with h | rfl
    · exact hrow.1 r h
    · exact hrl
  · rcases List.mem_append.1 hv with h | h
    · rcases List.mem_append.1 h with h | h
      · exact hrow.2 v (List.mem_of_mem_take h)
      · exact hx1 v h
    · exact hrow.2 v (List.mem_of_mem_drop h)
end
theorem mw_frozen {w : World} {s s' : Sb} {g : Gh} {k sz i n : Nat} {rows : List (List PV)} (hmo : ∀ v, (TV.mo k rows.length).P w s g v → (TV.own k sz rows).P w s' g v) {v : Value} (hv : (TV.mw k rows.length i sz n).P w s g v) : (PV.sl false sz ((rows.drop i).take n)).p w s' v := by
  rw [TV.P] at hv
  obtain ⟨G, c, g1, rfl, g3, g4, g5, g6⟩ := hv
  have h := hmo (.slice (some ⟨G, 0, none⟩) rows.length c) (by rw [TV.P]; exact ⟨g1, .inr ⟨G, c, rfl, g5, g6⟩⟩)
  rw [TV.P] at h
  obtain ⟨ad, cap, e1, e2, e3, e4, e5⟩ := h.1
  cases e1
  have := PV.sl_cut (w := w) (s := s') (mo := false) (l := i) (h := i + n) (by omega) g3 e2 e3 e4 e5
  rw [if_neg (by omega), Nat.add_sub_cancel_left] at this
  simpa [Addr.add_mid] using this
theorem mo_mw {w : World} {s : Sb} {g : Gh} {k sz n : Nat} (h0 : 0 < n) {v : Value} (hv : (TV.mo k n).P w s g v) : (TV.mw k n 0 sz n).P w s g v := by
  rw [TV.P] at hv
  obtain ⟨g1, ⟨_, rfl⟩ | ⟨G, c, rfl, g2, g3⟩⟩ := hv
  · omega
  · rw [TV.P]
    exact ⟨G, c, g1, by rw [Nat.zero_mul, Nat.sub_zero], by omega, h0, g2, g3⟩
end Go.Proofs.YtnkjenaanjnihaaGreatDoor
