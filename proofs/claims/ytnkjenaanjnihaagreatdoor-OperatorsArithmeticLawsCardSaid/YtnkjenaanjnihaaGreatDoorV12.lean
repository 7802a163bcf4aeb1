/- Part 12 of the proof. -/
import Derived.Test.YtnkjenaanjnihaaGreatDoorV11
import Derived.Test.YtnkjenaanjnihaaGreatDoorChecked
import Derived.WalkKit
import Derived.Test.YtnkjenaanjnihaaGreatDoorProg
import Derived.Ground.NamesProg
import Derived.Shelf.Unicode.ValidAny
import Derived.Shelf.Strings.Split
import Derived.Shelf.Strings.Fields
import Derived.Shelf.Strings.Cut
import Derived.Shelf.Strings.Search3
import Derived.WalkSpells
import Derived.WalkLawsBesides
import Derived.Lib.Hide


/- The evaluator: functions and their results. Nothing here speaks of the program. -/
namespace Go.Proofs.YtnkjenaanjnihaaGreatDoor
open Go.RowKit
section
variable {P : Program} {K : DS → Prop}
theorem sat_done {S : DS} (h : K S) : (Out.done S).sat P K := h
theorem sat_same {a : Bool} {r : Out} (h : r.sat P K) : (Out.imp a a r).sat P K := ⟨id, h⟩
theorem sat_imp {a b : Bool} {r : Out} (h1 : a = true → b = true) (h : r.sat P K) : (Out.imp a b r).sat P K := ⟨h1, h⟩
theorem sat_need {p : Prop} {r : Out} (h1 : p) (h : r.sat P K) : (Out.need p r).sat P K := ⟨h1, h⟩
theorem sat_call (out : D) {f : FuncId} {args : List D} {r : D → Out} (hF : PFun P f (D.pvs args) out.pv) (hfl : out.flat = true) (h : (r out).sat P K) : (Out.call none f args r).sat P K := ⟨out, fun _ => hF, hfl, h⟩
theorem sat_callG (out : D) {e : Bool} {f : FuncId} {args : List D} {r : D → Out} (hF : e = true → PFun P f (D.pvs args) out.pv) (hfl : out.flat = true) (h : (r out).sat P K) : (Out.call (some e) f args r).sat P K :=
  ⟨out, fun h => hF (by cases e with | true => rfl | false => exact absurd rfl h), hfl, h⟩
theorem sat_callO (e sz : Nat) (rows : List (List D)) {f : FuncId} {args : List D} {r : TypeId → Nat → List (List D) → Out} (hF : OFun P f (D.pvs args) e sz (D.pvss rows)) (h : (r e sz rows).sat P K) : (Out.callO f args r).sat P K := ⟨e, sz, rows, hF, h⟩
theorem sat_pick (row : List D) {p : List D → Prop} {r : List D → Out} (hp : p row) (h : (r row).sat P K) : (Out.pick p r).sat P K := ⟨row, hp, h⟩
end
def resD (T : List (Nat × TI)) (S : DS) : ResultVar → Option D
  | .tmp t => match fnd1 t S.tm with
    | some d => match d.pure with
      | true => some d
      | false => none
    | none => none
  | .cell t ty => match fnd1 t S.tm with
    | some (.bp k off) => match fnd1 k S.ow with
      | some (.box _ cs) => match cls T ty with
        | some (some n) => match takeS D.pure n (dropS off cs) with
          | some r => some (.agg r)
          | none => none
        | some none => match getS off cs with
          | some d => match d.pure with
            | true => some d
            | false => none
          | none => none
        | none => none
      | _ => none
    | _ => none
def finD (T : List (Nat × TI)) (S : DS) : List ResultVar → Option D
  | [r] => resD T S r
  | [r, q] => match resD T S r, resD T S q with
    | some a, some b => some (.tup [a, b])
    | _, _ => none
  | [r, q, x] => match resD T S r, resD T S q, resD T S x with
    | some a, some b, some c => some (.tup [a, b, c])
    | _, _, _ => none
  | [r, q, x, y, z] => match resD T S r, resD T S q, resD T S x, resD T S y, resD T S z with
    | some a, some b, some c, some d, some e => some (.tup [a, b, c, d, e])
    | _, _, _, _, _ => none
  | _ => none
def FinV (T : List (Nat × TI)) (rs : List ResultVar) (out : D) (ex : Exit) (S : DS) : Prop :=
  (ex = .ret ∨ ex = .normal) ∧ ∃ d, finD T S rs = some d ∧ ∀ w s v, d.pv.p w s v → out.pv.p w s v
theorem FinV.ret {T : List (Nat × TI)} {rs : List ResultVar} {out d : D} {S : DS} (h : finD T S rs = some d) (hs : ∀ w s v, d.pv.p w s v → out.pv.p w s v) : FinV T rs out .ret S := ⟨.inl rfl, d, h, hs⟩
def argD : Nat → List D → List (Nat × D)
  | _, [] => []
  | i, d :: l => (i, d) :: argD (i + 1) l
theorem argD_fnd : ∀ {l : List D} {i t : Nat} {d : D}, fnd1 t (argD i l) = some d → ∃ j, t = i + j ∧ l[j]? = some d
  | [], i, t, d, h => by cases h
  | e :: l, i, t, d, h => by
    unfold argD at h
    rw [fnd1_cons] at h
    by_cases hi : i = t
    · simp only [hi, if_true] at h; cases h; exact ⟨0, by omega, rfl⟩
    · simp only [hi, if_false] at h
      obtain ⟨j, h1, h2⟩ := argD_fnd h
      exact ⟨j + 1, by omega, by simpa using h2⟩
theorem flats_mem : ∀ {l : List D} {d : D}, D.flats l = true → d ∈ l → d.flat = true
  | [], _, _, h => by cases h
  | e :: l, d, h, hd => by
    obtain ⟨h1, h2⟩ := flats_cons h
    rcases List.mem_cons.1 hd with rfl | hd
    · exact h1
    · exact flats_mem h2 hd
section
variable {P : Program} {T : List (Nat × TI)} (hT : tabOk P T = true)
include hT
theorem resD_ok {S : DS} {r : ResultVar} {d : D} (h : resD T S r = some d) : Res1 P S.ste r d.pv := by
  unfold resD at h
  split at h
  · rename_i t
    split at h
    · rename_i e he
      split at h
      · rename_i hp
        cases h
        exact ⟨d.tv, by show fnd t (tvs S.tm) = _; rw [fnd_tvs, he]; rfl, D.toPV hp⟩
      · cases h
    · cases h
  · rename_i t ty
    split at h
    · rename_i k off ht
      split at h
      · rename_i bt cs hk
        have h1 : fnd t S.ste.tm = some (.bp k off) := by show fnd t (tvs S.tm) = _; rw [fnd_tvs, ht]; rfl
        have h2 : fnd k S.ste.ow = some (.box bt (D.tvl cs)) := by show fnd k (ows S.ow) = _; rw [fnd_ows, hk]; rfl
        split at h
        · rename_i n hc
          split at h
          · rename_i r hr
            cases h
            obtain ⟨g1, g2, g3⟩ := takeS_some hr
            rw [dropS_eq] at g1 g3
            refine ⟨k, off, bt, _, h1, h2, .inr ⟨n, D.pvs r, (cls_row hT hc).2, ?_, ?_, rfl⟩⟩
            · rw [pvs_length, g3]; simp at g1 ⊢; omega
            · rw [tvl_map, ← List.map_drop, ← List.map_take, ← g3, pvs_map, List.map_map, List.map_map]
              exact List.map_congr_left fun d hd => D.toPV (g2 d hd)
          · cases h
        · rename_i hc
          split at h
          · rename_i e he
            split at h
            · rename_i hp
              cases h
              rw [getS_eq] at he
              exact ⟨k, off, bt, _, h1, h2, .inl ⟨cls_one hT hc, d.tv, by rw [tvl_map]; simp [he], D.toPV hp⟩⟩
            · cases h
          · cases h
        · cases h
      · cases h
    · cases h
theorem FinV.fin {rs : List ResultVar} {out : D} {ex : Exit} {S : DS} (h : FinV T rs out ex S) : ∃ d, Fin P rs.toArray d ex S.ste ∧ ∀ w s v, d.p w s v → out.pv.p w s v := by
  obtain ⟨he, d, hd, hs⟩ := h
  refine ⟨d.pv, ⟨he, ?_⟩, hs⟩
  match rs, hd with
  | [r], hd => exact resD_ok hT hd
  | [r, q], hd =>
    have hd : (match resD T S r, resD T S q with | some a, some b => some (D.tup [a, b]) | _, _ => none) = some d := hd
    cases ha : resD T S r with
    | none => rw [ha] at hd; cases hd
    | some a =>
      cases hb : resD T S q with
      | none => rw [ha, hb] at hd; cases hd
      | some b =>
        rw [ha, hb] at hd
        cases hd
        exact ⟨a.pv, b.pv, resD_ok hT ha, resD_ok hT hb, rfl⟩
  | [r, q, x], hd =>
    have hd : (match resD T S r, resD T S q, resD T S x with | some a, some b, some c => some (D.tup [a, b, c]) | _, _, _ => none) = some d := hd
    cases ha : resD T S r with
    | none => rw [ha] at hd; cases hd
    | some a =>
      cases hb : resD T S q with
      | none => rw [ha, hb] at hd; cases hd
      | some b =>
        cases hc : resD T S x with
        | none => rw [ha, hb, hc] at hd; cases hd
        | some c =>
          rw [ha, hb, hc] at hd
          cases hd
          exact ⟨a.pv, b.pv, c.pv, resD_ok hT ha, resD_ok hT hb, resD_ok hT hc, rfl⟩
  | [r, q, x, y, z], hd =>
    have hd : (match resD T S r, resD T S q, resD T S x, resD T S y, resD T S z with | some a, some b, some c, some d, some e => some (D.tup [a, b, c, d, e]) | _, _, _, _, _ => none) = some d := hd
    cases ha : resD T S r with
    | none => rw [ha] at hd; cases hd
    | some a =>
      cases hb : resD T S q with
      | none => rw [ha, hb] at hd; cases hd
      | some b =>
        cases hc : resD T S x with
        | none => rw [ha, hb, hc] at hd; cases hd
        | some c =>
          cases hg : resD T S y with
          | none => rw [ha, hb, hc, hg] at hd; cases hd
          | some g =>
            cases hi : resD T S z with
            | none => rw [ha, hb, hc, hg, hi] at hd; cases hd
            | some i =>
              rw [ha, hb, hc, hg, hi] at hd
              cases hd
              exact ⟨a.pv, b.pv, c.pv, g.pv, i.pv, resD_ok hT ha, resD_ok hT hb, resD_ok hT hc, resD_ok hT hg, resD_ok hT hi, rfl⟩
  | [], hd => cases hd
  | [_, _, _, _], hd => cases hd
  | _ :: _ :: _ :: _ :: _ :: _ :: _, hd => cases hd
theorem pfun_ev {f : FuncId} {fn : Func} {c : Code} {n : Nat} {args : List D} {rs : List ResultVar} {out : D} (hf : P.funcs[f]? = some fn) (hb : fn.body = some c) (hn : fn.ntmps = n) (hr : fn.results = rs.toArray) (hm : (fn.name == "runtime.NumGoroutine") = false) (hl : Nat.ble args.length n = true) (hfl : D.flats args = true)
    (h : ∀ b : Ba, b.sz = n → Ev P b c ⟨argD 0 args, [], 0⟩ (FinV T rs out)) : PFun P f (D.pvs args) out.pv := by
  have hl := Nat.le_of_ble_eq_true hl
  refine ⟨⟨fn, hf, hm, by rw [hb]; rfl⟩, fun w s vs hlt hgl hv => calls_of_wp hf hb ?_⟩
  have hlen := hv.length
  rw [pvs_length] at hlen
  have hr0 : Rel ⟨w, s, fun _ => False, n, ⟨fun _ => none, fun _ _ => none⟩⟩ w s ⟨fun _ => none, fun _ _ => none⟩ (DS.ste ⟨argD 0 args, [], 0⟩) { tmps := vs.toArray ++ Array.replicate (fn.ntmps - vs.toArray.size) undef, defers := [] } := by
    refine ⟨⟨Ex.refl w s, (fun B o h => .inl h), (fun B o h => .inl h), rfl, rfl, rfl, Nat.le_refl _, fun _ _ _ => rfl, hgl⟩, hlt, ?_, fun t d ht => ?_, (fun _ _ h => by cases h), (fun _ _ _ _ _ h => by cases h), fun _ _ => ⟨rfl, fun _ => rfl⟩, rfl, fun _ _ => ⟨(fun _ h => by cases h), fun _ _ h => by cases h⟩⟩
    · simp; omega
    · have ht' : fnd t (tvs (argD 0 args)) = some d := ht
      rw [fnd_tvs] at ht'
      cases hx : fnd1 t (argD 0 args) with
      | none => rw [hx] at ht'; cases ht'
      | some e =>
        rw [hx] at ht'; cases ht'
        obtain ⟨j, h1, h2⟩ := argD_fnd hx
        obtain ⟨v, h3, h4⟩ := hv.get (pvs_get h2)
        have hj := (List.getElem?_eq_some_iff.1 h3).1
        refine ⟨v, ?_, D.ofPV (flats_mem hfl (List.mem_of_getElem? h2)) h4⟩
        have ht' : t = j := by omega
        rw [ht', Array.getElem?_append_left (by simpa using hj)]
        simpa using h3
  refine h _ rfl w s _ _ _ hr0 fun ex w' s' g' a' S' h1 h2 => ?_
  obtain ⟨d, h3, h4⟩ := h2.fin hT
  rw [← hr] at h3
  exact Fin.post h1 h3 fun v hv => ⟨s', v, rfl, h4 _ _ _ hv, ⟨h1.kp.ex, h1.lt, h1.kp.os, h1.kp.tape, h1.kp.output, h1.kp.size, fun N hN => h1.kp.block N hN id, fun B o hs => (h1.kp.st B o hs).elim .inl fun x => x.elim .inr fun x => x.elim, fun B o hs => (h1.kp.sst B o hs).elim .inl fun x => x.elim .inr fun x => x.elim⟩⟩
end
end Go.Proofs.YtnkjenaanjnihaaGreatDoor


/- The evaluator's table of types for this program. -/
namespace Go.Proofs.YtnkjenaanjnihaaGreatDoor
open Go.RowKit
def TT : List (Nat × TI) := [(2, .int .i64),
  (3, .int .i64),
  (4, .bool),
  (5, .int .u8),
  (6, .int .u8),
  (7, .st 4 [.int .i64 0, .int .i64 0, .bool false, .int .u8 0] [(0, 1), (1, 1), (2, 1), (3, 1)]),
  (9, .str),
  (12, .int .u64),
  (13, .st 2 [.string ByteArray.empty, .int .u64 0] [(0, 1), (1, 1)]),
  (21, .int .i32),
  (22, .sl 48 1),
  (23, .st 2 [.bool false, .slice none 0 0] [(0, 1), (1, 1)]),
  (24, .st 2 [.bool false, .slice none 0 0] [(0, 1), (1, 1)]),
  (25, .st 7 [.int .i64 0, .bool false, .slice none 0 0, .bool false, .slice none 0 0, .string ByteArray.empty, .int .i64 0] [(0, 1), (1, 2), (3, 2), (5, 1), (6, 1)]),
  (26, .st 7 [.int .i64 0, .bool false, .slice none 0 0, .bool false, .slice none 0 0, .string ByteArray.empty, .int .i64 0] [(0, 1), (1, 2), (3, 2), (5, 1), (6, 1)]),
  (30, .sl 3 1),
  (31, .sl 3 1),
  (32, .st 2 [.bool false, .slice none 0 0] [(0, 1), (1, 1)]),
  (33, .st 2 [.bool false, .slice none 0 0] [(0, 1), (1, 1)]),
  (34, .st 3 [.bool false, .slice none 0 0, .slice none 0 0] [(0, 2), (2, 1)]),
  (35, .st 3 [.bool false, .slice none 0 0, .slice none 0 0] [(0, 2), (2, 1)]),
  (41, .sl 26 7),
  (46, .int .u64),
  (48, .int .u32),
  (50, .st 4 [.bool false, .slice none 0 0, .bool false, .slice none 0 0] [(0, 2), (2, 2)]),
  (51, .st 4 [.bool false, .slice none 0 0, .bool false, .slice none 0 0] [(0, 2), (2, 2)]),
  (53, .sl 85 10),
  (54, .st 1 [.slice none 0 0] [(0, 1)]),
  (55, .st 1 [.slice none 0 0] [(0, 1)]),
  (57, .sl 59 18),
  (58, .st 18 [.int .i64 0, .int .i64 0, .bool false, .slice none 0 0, .bool false, .slice none 0 0, .string ByteArray.empty, .int .i64 0, .int .i64 0, .string ByteArray.empty, .int .i64 0, .bool false, .slice none 0 0, .bool false, .slice none 0 0, .string ByteArray.empty, .int .i64 0, .slice none 0 0] [(0, 1), (1, 7), (8, 1), (9, 1), (10, 7), (17, 1)]),
  (59, .st 18 [.int .i64 0, .int .i64 0, .bool false, .slice none 0 0, .bool false, .slice none 0 0, .string ByteArray.empty, .int .i64 0, .int .i64 0, .string ByteArray.empty, .int .i64 0, .bool false, .slice none 0 0, .bool false, .slice none 0 0, .string ByteArray.empty, .int .i64 0, .slice none 0 0] [(0, 1), (1, 7), (8, 1), (9, 1), (10, 7), (17, 1)]),
  (60, .st 19 [.slice none 0 0, .int .i64 0, .int .i64 0, .bool false, .slice none 0 0, .bool false, .slice none 0 0, .string ByteArray.empty, .int .i64 0, .int .i64 0, .string ByteArray.empty, .int .i64 0, .bool false, .slice none 0 0, .bool false, .slice none 0 0, .string ByteArray.empty, .int .i64 0, .slice none 0 0] [(0, 1), (1, 18)]),
  (61, .st 19 [.slice none 0 0, .int .i64 0, .int .i64 0, .bool false, .slice none 0 0, .bool false, .slice none 0 0, .string ByteArray.empty, .int .i64 0, .int .i64 0, .string ByteArray.empty, .int .i64 0, .bool false, .slice none 0 0, .bool false, .slice none 0 0, .string ByteArray.empty, .int .i64 0, .slice none 0 0] [(0, 1), (1, 18)]),
  (76, .st 2 [.int .u8 0, .int .u8 0] [(0, 1), (1, 1)]),
  (77, .st 2 [.int .u8 0, .int .u8 0] [(0, 1), (1, 1)]),
  (78, .ar 32 16 2 77 [.int .u8 0, .int .u8 0, .int .u8 0, .int .u8 0, .int .u8 0, .int .u8 0, .int .u8 0, .int .u8 0, .int .u8 0, .int .u8 0, .int .u8 0, .int .u8 0, .int .u8 0, .int .u8 0, .int .u8 0, .int .u8 0, .int .u8 0, .int .u8 0, .int .u8 0, .int .u8 0, .int .u8 0, .int .u8 0, .int .u8 0, .int .u8 0, .int .u8 0, .int .u8 0, .int .u8 0, .int .u8 0, .int .u8 0, .int .u8 0, .int .u8 0, .int .u8 0]),
  (79, .sl 9 1),
  (84, .st 10 [.int .i64 0, .string ByteArray.empty, .int .i64 0, .slice none 0 0, .slice none 0 0, .slice none 0 0, .slice none 0 0, .slice none 0 0, .int .i64 0, .int .i64 0] [(0, 1), (1, 1), (2, 1), (3, 1), (4, 1), (5, 1), (6, 1), (7, 1), (8, 1), (9, 1)]),
  (85, .st 10 [.int .i64 0, .string ByteArray.empty, .int .i64 0, .slice none 0 0, .slice none 0 0, .slice none 0 0, .slice none 0 0, .slice none 0 0, .int .i64 0, .int .i64 0] [(0, 1), (1, 1), (2, 1), (3, 1), (4, 1), (5, 1), (6, 1), (7, 1), (8, 1), (9, 1)]),
  (87, .st 2 [.string ByteArray.empty, .string ByteArray.empty] [(0, 1), (1, 1)]),
  (88, .st 2 [.string ByteArray.empty, .string ByteArray.empty] [(0, 1), (1, 1)]),
  (89, .ar 24 12 2 88 [.string ByteArray.empty, .string ByteArray.empty, .string ByteArray.empty, .string ByteArray.empty, .string ByteArray.empty, .string ByteArray.empty, .string ByteArray.empty, .string ByteArray.empty, .string ByteArray.empty, .string ByteArray.empty, .string ByteArray.empty, .string ByteArray.empty, .string ByteArray.empty, .string ByteArray.empty, .string ByteArray.empty, .string ByteArray.empty, .string ByteArray.empty, .string ByteArray.empty, .string ByteArray.empty, .string ByteArray.empty, .string ByteArray.empty, .string ByteArray.empty, .string ByteArray.empty, .string ByteArray.empty]),
  (104, .int .u64),
  (112, .sl 57 1),
  (124, .st 2 [.int .i64 0, .int .i64 0] [(0, 1), (1, 1)]),
  (129, .sl 41 1),
  (139, .mp false [.nilFunc]),
  (141, .st 2 [.int .i64 0, .int .i64 0] [(0, 1), (1, 1)]),
  (142, .st 2 [.int .i64 0, .int .i64 0] [(0, 1), (1, 1)]),
  (159, .st 3 [.slice none 0 0, .slice none 0 0, .int .i64 0] [(0, 1), (1, 1), (2, 1)]),
  (161, .int .u16),
  (162, .st 3 [.int .u16 0, .int .u16 0, .int .u16 0] [(0, 1), (1, 1), (2, 1)]),
  (165, .st 3 [.int .u32 0, .int .u32 0, .int .u32 0] [(0, 1), (1, 1), (2, 1)]),
  (211, .sl 51 4),
  (219, .sl 24 2),
  (254, .st 1 [.string ByteArray.empty] [(0, 1)]),
  (2000007, .fl [(2, 0), (3, 1), (4, 2), (6, 3)]),
  (2000013, .fl [(9, 0), (12, 1)]),
  (2000018, .fl [(17, 0)]),
  (2000019, .fl [(17, 0)]),
  (2000023, .fl [(4, 0), (22, 1)]),
  (2000024, .fl [(4, 0), (22, 1)]),
  (2000025, .fl [(3, 0), (24, 1), (24, 3), (9, 5), (3, 6)]),
  (2000026, .fl [(3, 0), (24, 1), (24, 3), (9, 5), (3, 6)]),
  (2000032, .fl [(4, 0), (31, 1)]),
  (2000033, .fl [(4, 0), (31, 1)]),
  (2000034, .fl [(33, 0), (31, 2)]),
  (2000035, .fl [(33, 0), (31, 2)]),
  (2000050, .fl [(24, 0), (24, 2)]),
  (2000051, .fl [(24, 0), (24, 2)]),
  (2000054, .fl [(53, 0)]),
  (2000055, .fl [(53, 0)]),
  (2000058, .fl [(3, 0), (26, 1), (3, 8), (9, 9), (26, 10), (41, 17)]),
  (2000059, .fl [(3, 0), (26, 1), (3, 8), (9, 9), (26, 10), (41, 17)]),
  (2000060, .fl [(57, 0), (59, 1)]),
  (2000061, .fl [(57, 0), (59, 1)]),
  (2000076, .fl [(5, 0), (5, 1)]),
  (2000077, .fl [(5, 0), (5, 1)]),
  (2000084, .fl [(3, 0), (9, 1), (3, 2), (30, 3), (30, 4), (79, 5), (41, 6), (41, 7), (3, 8), (3, 9)]),
  (2000085, .fl [(3, 0), (9, 1), (3, 2), (30, 3), (30, 4), (79, 5), (41, 6), (41, 7), (3, 8), (3, 9)]),
  (2000087, .fl [(9, 0), (9, 1)]),
  (2000088, .fl [(9, 0), (9, 1)]),
  (2000124, .fl [(3, 0), (3, 1)]),
  (2000141, .fl [(3, 0), (3, 1)]),
  (2000142, .fl [(3, 0), (3, 1)]),
  (2000159, .fl [(157, 0), (158, 1), (3, 2)]),
  (2000162, .fl [(161, 0), (161, 1), (161, 2)]),
  (2000165, .fl [(48, 0), (48, 1), (48, 2)]),
  (2000238, .fl [(17, 0), (17, 1), (17, 2), (9, 3)]),
  (2000250, .fl [(12, 0), (12, 1), (48, 2), (244, 3), (5, 4), (5, 5), (245, 6), (246, 7), (247, 8), (248, 9), (249, 10)]),
  (2000251, .fl [(12, 0), (12, 1), (48, 2), (244, 3), (5, 4), (5, 5), (245, 6), (246, 7), (247, 8), (248, 9), (249, 10)]),
  (2000254, .fl [(9, 0)])]
theorem tabT : tabOk Tryz.prog TT = true := by kernel_rfl
theorem mixT : Tryz.prog.follows .mixedOrders = true := by kernel_rfl
end Go.Proofs.YtnkjenaanjnihaaGreatDoor


/- A value of the document as it stands. -/
namespace Go.Proofs.YtnkjenaanjnihaaGreatDoor
structure Vl where
  k : Int
  nn : Bool
  nl : List Nat
  dn : Bool
  dl : List Nat
  s : ByteArray
  r : Int
end Go.Proofs.YtnkjenaanjnihaaGreatDoor


/- The document's values, objects and heaps as data. -/
namespace Go.Proofs.YtnkjenaanjnihaaGreatDoor
open Go.RowKit
def iD (n : Int) : List D := [.v (.int .i64 n)]
def sD (s : ByteArray) : List D := [.v (.string s)]
def uD (n : Nat) : List D := [.v (.int .u32 n)]
def vlD (x : Vl) : List D := [.v (.int .i64 x.k), .v (.bool x.nn), .sl false 1 x.nl uD 0, .v (.bool x.dn), .sl false 1 x.dl uD 0, .v (.string x.s), .v (.int .i64 x.r)]
def vl0 : Vl := ⟨0, false, [], false, [], ByteArray.empty, 0⟩
structure Ob where
  kind : Int
  name : ByteArray
  cls : Int
  refs : List Int
  order : List Int
  names : List ByteArray
  items : List Vl
  keys : List Vl
  code : Int
  state : Int
def ob0 : Ob := ⟨0, ByteArray.empty, 0, [], [], [], [], [], 0, 0⟩
def isD (l : List Int) : D := .sl false 1 l iD 0
def ssD (l : List ByteArray) : D := .sl false 1 l sD ByteArray.empty
def usD (l : List Nat) : D := .sl false 1 l uD 0
def vsD (l : List Vl) : D := .sl false 7 l vlD vl0
def obD (o : Ob) : List D := [.v (.int .i64 o.kind), .v (.string o.name), .v (.int .i64 o.cls), .sl false 1 o.refs iD 0, .sl false 1 o.order iD 0, .sl false 1 o.names sD ByteArray.empty, .sl false 7 o.items vlD vl0, .sl false 7 o.keys vlD vl0, .v (.int .i64 o.code), .v (.int .i64 o.state)]
def hpD (md : Bool) (h : List Ob) : D := .agg [.sl md 10 h obD ob0]
end Go.Proofs.YtnkjenaanjnihaaGreatDoor


/- The evaluator: functions that leave a row to their caller; a slice held against nil; results told in other words. Nothing here speaks of the program. -/
namespace Go.Proofs.YtnkjenaanjnihaaGreatDoor
open Go.RowKit
def SubP (d d' : D) : Prop := ∀ w s v, d.pv.p w s v → d'.pv.p w s v
theorem SubP.refl (d : D) : SubP d d := fun _ _ _ h => h
theorem SubP.of_eq {d d' : D} (h : d = d') : SubP d d' := by subst h; exact SubP.refl d
theorem SubP.int {k : IntKind} {n m : Int} (h : n = m) : SubP (.v (.int k n)) (.v (.int k m)) := by subst h; exact SubP.refl _
theorem SubP.bool {n m : Bool} (h : n = m) : SubP (.v (.bool n)) (.v (.bool m)) := by subst h; exact SubP.refl _
theorem SubP.nilSl {α : Type} {sz : Nat} {f : α → List D} {e : α} {l : List α} (h : l = []) : SubP (.v (.slice none 0 0)) (.sl false sz l f e) := by
  subst h
  intro w s v hv
  have hv' : v = .slice none 0 0 := hv
  subst hv'
  exact PV.sl_nil
theorem SubP.ownSl {α : Type} {k sz : Nat} {rows : List (List D)} {l : List α} {f : α → List D} {e : α} (h : rows = l.map f) : SubP (.own k sz rows) (.sl false sz l f e) := by
  subst h
  intro w s v hv
  have hv' : (PV.sl false sz (D.pvss (l.map f))).p w s v := by rw [D.pv] at hv; exact hv
  rw [map_pvss] at hv'
  exact hv'
theorem SubP.slrSl {α : Type} {m : Bool} {sz : Nat} {rows : List (List D)} {l : List α} {f : α → List D} {e : α} (h : rows = l.map f) : SubP (.slr m sz rows) (.sl m sz l f e) := by
  subst h
  intro w s v hv
  have hv' : (PV.sl m sz (D.pvss (l.map f))).p w s v := hv
  rw [map_pvss] at hv'
  exact hv'
def SubPs : List D → List D → Prop
  | [], [] => True
  | d :: l, d' :: l' => SubP d d' ∧ SubPs l l'
  | _, _ => False
theorem SubPs.refl : ∀ l, SubPs l l
  | [] => trivial
  | _ :: l => ⟨SubP.refl _, SubPs.refl l⟩
theorem SubPs.all {w : World} {s : Sb} : ∀ {l l' : List D} {vs : List Value}, SubPs l l' → AllV w s (D.pvs l) vs → AllV w s (D.pvs l') vs
  | [], [], vs, _, h => h
  | d :: l, d' :: l', [], _, hv => by rw [D.pvs] at hv; exact hv.elim
  | d :: l, d' :: l', v :: vs, h, hv => by
    rw [D.pvs] at hv ⊢
    exact ⟨h.1 _ _ _ hv.1, SubPs.all h.2 hv.2⟩
  | [], _ :: _, _, h, _ => h.elim
  | _ :: _, [], _, h, _ => h.elim
theorem SubP.agg {l l' : List D} (h : SubPs l l') : SubP (.agg l) (.agg l') := by
  intro w s v hv
  rw [D.pv] at hv ⊢
  obtain ⟨vs, h1, h2⟩ := hv
  exact ⟨vs, h1, h.all h2⟩
theorem SubP.tup {l l' : List D} (h : SubPs l l') : SubP (.tup l) (.tup l') := by
  intro w s v hv
  rw [D.pv] at hv ⊢
  obtain ⟨vs, h1, h2⟩ := hv
  exact ⟨vs, h1, h.all h2⟩
theorem PFun.args {P : Program} {f : FuncId} {args args' : List D} {out : PV} (h : PFun P f (D.pvs args) out) (hs : SubPs args' args) : PFun P f (D.pvs args') out :=
  ⟨h.bod, fun w s vs hl hg hv => h.run w s vs hl hg (hs.all hv)⟩
def FinO (rs : List ResultVar) (e : TypeId) (sz : Nat) (rows : List (List D)) (ex : Exit) (S : DS) : Prop :=
  (ex = .ret ∨ ex = .normal) ∧ ∃ t, rs = [.tmp t] ∧ ((∃ k rows', fnd1 t S.tm = some (.own k sz rows') ∧ fnd1 k S.ow = some (.row e sz rows'.length) ∧ rows' = rows) ∨ (fnd1 t S.tm = some (.v (.slice none 0 0)) ∧ rows = []))
theorem FinO.ret {t : Nat} {e : TypeId} {sz k n : Nat} {rows rows' : List (List D)} {S : DS} (h1 : fnd1 t S.tm = some (.own k sz rows')) (h2 : fnd1 k S.ow = some (.row e sz n)) (hn : n = rows'.length) (h3 : rows' = rows) : FinO [.tmp t] e sz rows .ret S :=
  ⟨.inl rfl, t, rfl, .inl ⟨k, rows', h1, by rw [h2, hn], h3⟩⟩
theorem FinO.nil {t : Nat} {e : TypeId} {sz : Nat} {rows : List (List D)} {S : DS} (h1 : fnd1 t S.tm = some (.v (.slice none 0 0))) (h3 : rows = []) : FinO [.tmp t] e sz rows .ret S :=
  ⟨.inl rfl, t, rfl, .inr ⟨h1, h3⟩⟩
section
variable {P : Program}
theorem ofun_ev {f : FuncId} {fn : Func} {c : Code} {n : Nat} {args : List D} {rs : List ResultVar} {e : TypeId} {sz : Nat} {rows : List (List D)} (hf : P.funcs[f]? = some fn) (hb : fn.body = some c) (hn : fn.ntmps = n) (hr : fn.results = rs.toArray) (hm : (fn.name == "runtime.NumGoroutine") = false) (hl : Nat.ble args.length n = true) (hfl : D.flats args = true)
    (h : ∀ b : Ba, b.sz = n → Ev P b c ⟨argD 0 args, [], 0⟩ (FinO rs e sz rows)) : OFun P f (D.pvs args) e sz (D.pvss rows) := by
  have hl := Nat.le_of_ble_eq_true hl
  refine ⟨⟨fn, hf, hm, by rw [hb]; rfl⟩, fun w s vs hlt hgl hv => calls_of_wp hf hb ?_⟩
  have hlen := hv.length
  rw [pvs_length] at hlen
  have hr0 : Rel ⟨w, s, fun _ => False, n, ⟨fun _ => none, fun _ _ => none⟩⟩ w s ⟨fun _ => none, fun _ _ => none⟩ (DS.ste ⟨argD 0 args, [], 0⟩) { tmps := vs.toArray ++ Array.replicate (fn.ntmps - vs.toArray.size) undef, defers := [] } := by
    refine ⟨⟨Ex.refl w s, (fun B o h => .inl h), (fun B o h => .inl h), rfl, rfl, rfl, Nat.le_refl _, fun _ _ _ => rfl, hgl⟩, hlt, ?_, fun t d ht => ?_, (fun _ _ h => by cases h), (fun _ _ _ _ _ h => by cases h), fun _ _ => ⟨rfl, fun _ => rfl⟩, rfl, fun _ _ => ⟨(fun _ h => by cases h), fun _ _ h => by cases h⟩⟩
    · simp; omega
    · have ht' : fnd t (tvs (argD 0 args)) = some d := ht
      rw [fnd_tvs] at ht'
      cases hx : fnd1 t (argD 0 args) with
      | none => rw [hx] at ht'; cases ht'
      | some e =>
        rw [hx] at ht'; cases ht'
        obtain ⟨j, h1, h2⟩ := argD_fnd hx
        obtain ⟨v, h3, h4⟩ := hv.get (pvs_get h2)
        have hj := (List.getElem?_eq_some_iff.1 h3).1
        refine ⟨v, ?_, D.ofPV (flats_mem hfl (List.mem_of_getElem? h2)) h4⟩
        have ht' : t = j := by omega
        rw [ht', Array.getElem?_append_left (by simpa using hj)]
        simpa using h3
  refine h _ rfl w s _ _ _ hr0 fun ex w' s' g' a' S' h1 h2 => ?_
  obtain ⟨he, t, rfl, h3⟩ := h2
  have hp : PStp w s w' s' := ⟨h1.kp.ex, h1.lt, h1.kp.os, h1.kp.tape, h1.kp.output, h1.kp.size, fun N hN => h1.kp.block N hN id, fun B o hs => (h1.kp.st B o hs).elim .inl fun x => x.elim .inr fun x => x.elim, fun B o hs => (h1.kp.sst B o hs).elim .inl fun x => x.elim .inr fun x => x.elim⟩
  have fin : ∀ v, a'.tmps[t]? = some v → ∀ R : Ending → World → Prop, R (.returned v) w' → bodyPost P fn R ex a' w' := by
    intro v hv R hR
    have h4 : Rel ⟨w, s, fun _ => False, n, ⟨fun _ => none, fun _ _ => none⟩⟩ w' s' g' ⟨[(t, .pv (PV.lit v))], [], S'.nx⟩ a' := ⟨h1.kp, h1.lt, h1.sz, fun t' d hd => by
      rw [fnd_cons] at hd
      by_cases e1 : t = t'
      · subst e1; simp at hd; subst hd; exact ⟨v, hv, rfl⟩
      · simp [e1, fnd] at hd, (fun _ _ h => by cases h), (fun _ _ _ _ _ h => by cases h), h1.fr, h1.df, h1.gb⟩
    refine Fin.post (out := PV.lit v) h4 ⟨he, ?_⟩ fun u hu => by
      have : u = v := hu
      rw [this]; exact hR
    rw [hr]
    exact ⟨_, by rw [fnd_cons]; simp; rfl, rfl⟩
  rcases h3 with ⟨k, rows', h4, h5, rfl⟩ | ⟨h4, rfl⟩
  · obtain ⟨v, h6, h7⟩ := h1.tm t (.own k sz (D.pvss rows')) (by show fnd t (tvs S'.tm) = _; rw [fnd_tvs, h4]; simp only [Option.map, D.tv])
    obtain ⟨h8, h9⟩ := h1.ow k (.row e sz rows'.length) (by show fnd k (ows S'.ow) = _; rw [fnd_ows, h5]; rfl)
    exact fin v h6 _ ⟨s', g', k, v, rfl, h7, by rw [pvss_length]; exact h8, fun N hN => by rw [pvss_length] at hN; exact (h9 N hN).elim id fun x => x.elim, hp⟩
  · obtain ⟨v, h6, h7⟩ := h1.tm t (.pv (PV.lit (.slice none 0 0))) (by show fnd t (tvs S'.tm) = _; rw [fnd_tvs, h4]; rfl)
    have h7' : v = .slice none 0 0 := h7
    subst h7'
    have hst := Stp.ghostRow (w := w') (s := s') (k := S'.nx) (sz := sz) (e := e) h1.lt (h1.fr S'.nx (Nat.le_refl _))
    refine fin _ h6 _ ⟨s', g'.setRow S'.nx 0 (.slice none 0 0), S'.nx, .slice none 0 0, rfl, ?_, hst.ok _ _ (by rw [fnd_cons]; simp; rfl), fun N hN => ?_, hp⟩
    · rw [TV.P]; exact ⟨PV.sl_nil, Gh.setRow_eq _ _ _ _⟩
    · have h0 : ([] : List (List D)).length = 0 := rfl
      rw [pvss_length, h0, blk_row (Gh.setRow_eq _ _ _ _)] at hN
      cases hN
end
section
variable {P : Program} {b : Ba} {ops : Array Oper}
theorem eqIn_nil (d : Nat) {t e : TypeId} (h : P.underlying t = some (.slice e)) (w : World) (a : Option Addr) (n c : Nat) : (Op.equalIn (d + 1) t (.slice a n c) (.slice none 0 0)).run P w = .ok a.isNone w := by
  cases a <;> simp [Op.equalIn, run_underlying h]
theorem run_nilEq {T T' e : TypeId} {t3 t4 n : Nat} {ty : TypeId} {pos : String} {aft : Array Edge} {rest : List Oper} {tm : List (Nat × TV)} {ow : List (Nat × Own)} {nx : Nat} {K : Ste → Prop} {d : TV} (hu : P.underlying T = some (.slice e)) (ht : fnd t3 tm = some d)
    (hd : ∀ w s g v, d.P w s g v → ∃ a c, v = .slice a n c ∧ (a = none → n = 0)) (h4 : t4 < b.sz) (h : ∀ c : Bool, (c = true → n = 0) → Run P b ops rest ⟨(t4, .pv (PV.lit (.bool c))) :: tm, ow, nx⟩ K) :
    Run P b ops (⟨some t4, .binOp .eql T (.tmp t3) (.const (.slice none 0 0)) T', ty, pos, aft, none⟩ :: rest) ⟨tm, ow, nx⟩ K := by
  intro w s g a Q hr hK
  obtain ⟨v, hv, hp⟩ := hr.tm t3 d ht
  obtain ⟨ad, c, rfl, hn⟩ := hd w s g v hp
  refine wpList_step fun K' hK' => ?_
  have hw : Region.wanted (⟨some t4, .binOp .eql T (.tmp t3) (.const (.slice none 0 0)) T', ty, pos, aft, none⟩ : Oper) (yielded ops a.tmps) = true := rfl
  rw [hw]
  simp only [if_true]
  unfold Oper.wp
  have hev : a.eval (.tmp t3) = .slice ad n c := by simp [Act.eval, hv]
  have hev0 : a.eval (.const (.slice none 0 0)) = .slice none 0 0 := rfl
  have he : (execOp a.eval ⟨some t4, .binOp .eql T (.tmp t3) (.const (.slice none 0 0)) T', ty, pos, aft, none⟩).run P w = .ok (.value (.bool ad.isNone)) w := by
    have heq' : (Op.equal T (.slice ad n c) (.slice none 0 0)).run P w = .ok ad.isNone w := eqIn_nil 9999 hu w ad n c
    simp [execOp, hev, hev0, eqGuard, binOp, heq']
  rw [he]
  refine hK' _ _ (h ad.isNone (fun e => hn (by cases ad with | none => rfl | some _ => cases e)) w s g _ Q ?_ hK)
  exact (hr.step (acc := []) (acc' := []) (dst := some t4) (out := .pv (PV.lit (.bool ad.isNone))) (v := .bool ad.isNone) (nx := nx) (Stp.refl w s g hr.lt) (fun k c h => by cases h) (fun k c h => by cases h) (Nat.le_refl _) (fun k c h => by cases h) (fun d hd => by cases hd; exact h4) rfl).congr (fun _ _ h => h) (fun _ _ h => h) (Nat.le_refl _)
theorem ev_nilRegion {α : Type} {id : Nat} {T T' e : TypeId} {t0 t3 t4 sz : Nat} {m : Bool} {ty1 ty2 : TypeId} {pos1 pos2 : String} {aft1 aft2 : Array Edge} {l : List α} {f : α → List D} {e0 : α} {tm : List (Nat × D)} {ow : List (Nat × DOwn)} {nx : Nat} {K : Exit → DS → Prop} (hu : P.underlying T = some (.slice e)) (h0 : fnd1 t0 tm = some (.sl m sz l f e0))
    (h3 : Nat.blt t3 b.sz = true) (h4 : Nat.blt t4 b.sz = true) (h : ∀ c : Bool, (c = true → l = []) → K .normal ⟨(t4, .v (.bool c)) :: (t3, .sl m sz l f e0) :: tm, ow, nx⟩) :
    Ev P b (.region id #[⟨some t3, .move (.tmp t0), ty1, pos1, aft1, none⟩, ⟨some t4, .binOp .eql T (.tmp t3) (.const (.slice none 0 0)) T', ty2, pos2, aft2, none⟩] false) ⟨tm, ow, nx⟩ K := by
  intro w s g a Q hr hK
  have h0' : fnd t0 (tvs tm) = some (D.sl m sz l f e0).tv := by rw [fnd_tvs, h0]; rfl
  have hR : Run P b #[⟨some t3, .move (.tmp t0), ty1, pos1, aft1, none⟩, ⟨some t4, .binOp .eql T (.tmp t3) (.const (.slice none 0 0)) T', ty2, pos2, aft2, none⟩] [⟨some t3, .move (.tmp t0), ty1, pos1, aft1, none⟩, ⟨some t4, .binOp .eql T (.tmp t3) (.const (.slice none 0 0)) T', ty2, pos2, aft2, none⟩] ⟨tvs tm, ows ow, nx⟩ (fun S' => ∃ S, S' = DS.ste S ∧ K .normal S) := by
    refine run_u (out := (D.sl m sz l f e0).tv) (u_move h0') rfl h3 ?_
    refine run_nilEq (d := (D.sl m sz l f e0).tv) (n := l.length) hu (by show fnd t3 ((t3, (D.sl m sz l f e0).tv) :: tvs tm) = _; rw [fnd_cons]; simp) (fun w s g v hv => ?_) (Nat.le_of_ble_eq_true h4) fun c hc => run_nil ⟨⟨(t4, .v (.bool c)) :: (t3, .sl m sz l f e0) :: tm, ow, nx⟩, rfl, h c fun e => List.eq_nil_of_length_eq_zero (hc e)⟩
    obtain ⟨a, cap, g1, g2, g3, g4, g5⟩ := hv
    refine ⟨a, cap, by simpa using g1, fun ha => ?_⟩
    cases l with
    | nil => rfl
    | cons x l =>
      obtain ⟨b', off, e1, _⟩ := g5 0 (D.pvs (f x)) rfl
      rw [ha] at e1; cases e1
  refine wp_region_lit (hR w s g a Q hr fun w' s' g' a' S' g1 g2 => ?_)
  obtain ⟨S, rfl, g3⟩ := g2
  exact hK .normal w' s' g' a' S g1 g3
end
end Go.Proofs.YtnkjenaanjnihaaGreatDoor


/- The evaluator: loops by what they turn, lengths, contracts of data. Nothing here speaks of the program. -/
namespace Go.Proofs.YtnkjenaanjnihaaGreatDoor
open Go.RowKit
def Fn (P : Program) (f : FuncId) (args : List D) (out : D) : Prop := PFun P f (D.pvs args) out.pv
theorem Fn.args {P : Program} {f : FuncId} {args args' : List D} {out : D} (h : Fn P f args out) (hs : SubPs args' args) : Fn P f args' out := PFun.args h hs
def FnO (P : Program) (f : FuncId) (args : List D) (e : TypeId) (sz : Nat) (rows : List (List D)) : Prop := OFun P f (D.pvs args) e sz (D.pvss rows)
section
variable {P : Program} {K : DS → Prop}
theorem sat_fn (out : D) {f : FuncId} {args : List D} {r : D → Out} (hF : Fn P f args out) (hfl : out.flat = true) (h : (r out).sat P K) : (Out.call none f args r).sat P K := sat_call out hF hfl h
theorem sat_fnG (out : D) {e : Bool} {f : FuncId} {args : List D} {r : D → Out} (hF : e = true → Fn P f args out) (hfl : out.flat = true) (h : (r out).sat P K) : (Out.call (some e) f args r).sat P K := sat_callG out hF hfl h
theorem sat_fnO (e sz : Nat) (rows : List (List D)) {f : FuncId} {args : List D} {r : TypeId → Nat → List (List D) → Out} (hF : FnO P f args e sz rows) (h : (r e sz rows).sat P K) : (Out.callO f args r).sat P K := sat_callO e sz rows hF h
end
theorem fn_ev {P : Program} {T : List (Nat × TI)} (hT : tabOk P T = true) {f : FuncId} {fn : Func} {c : Code} {n : Nat} {args : List D} {rs : List ResultVar} {out : D} (hf : P.funcs[f]? = some fn) (hb : fn.body = some c) (hn : fn.ntmps = n) (hr : fn.results = rs.toArray) (hm : (fn.name == "runtime.NumGoroutine") = false) (hl : Nat.ble args.length n = true) (hfl : D.flats args = true)
    (h : ∀ (w0 : World) (s0 : Sb) (mx : (Nat → Prop) × Gh), Ev P ⟨w0, s0, mx.1, n, mx.2⟩ c ⟨argD 0 args, [], 0⟩ (FinV T rs out)) : Fn P f args out :=
  pfun_ev hT hf hb hn hr hm hl hfl fun b hb' => by obtain ⟨w0, s0, mx, sz, g0⟩ := b; cases hb'; exact h w0 s0 (mx, g0)
theorem fnO_ev {P : Program} {f : FuncId} {fn : Func} {c : Code} {n : Nat} {args : List D} {rs : List ResultVar} {e : TypeId} {sz : Nat} {rows : List (List D)} (hf : P.funcs[f]? = some fn) (hb : fn.body = some c) (hn : fn.ntmps = n) (hr : fn.results = rs.toArray) (hm : (fn.name == "runtime.NumGoroutine") = false) (hl : Nat.ble args.length n = true) (hfl : D.flats args = true)
    (h : ∀ (w0 : World) (s0 : Sb) (mx : (Nat → Prop) × Gh), Ev P ⟨w0, s0, mx.1, n, mx.2⟩ c ⟨argD 0 args, [], 0⟩ (FinO rs e sz rows)) : FnO P f args e sz rows :=
  ofun_ev hf hb hn hr hm hl hfl fun b hb' => by obtain ⟨w0, s0, mx, sz, g0⟩ := b; cases hb'; exact h w0 s0 (mx, g0)
def oneO : DOwn → Bool
  | .box _ cs => allOne cs
  | _ => true
theorem SubL.same : ∀ {l : List D}, allOne l = true → SubL l l
  | [], _ => trivial
  | d :: l, h => by
    unfold allOne at h
    cases hd : d.one with
    | false => rw [hd] at h; simp at h
    | true => rw [hd] at h; exact ⟨Sub.refl d, hd, SubL.same h⟩
theorem SubO.same {c : DOwn} (h : oneO c = true) : SubO c c := by
  cases c with
  | box ty cs => exact ⟨rfl, SubL.same h⟩
  | row ty sz n => exact ⟨rfl, rfl, rfl⟩
  | mrow ty sz m => exact ⟨rfl, rfl, rfl⟩
  | map l => exact rfl
  | itr l => exact rfl
def keepK : List Nat → List (Nat × D) → (List (Nat × D) → Prop) → Prop
  | [], _, k => k []
  | t :: ks, tm, k => match fnd1 t tm with
    | some d => keepK ks tm fun r => k ((t, d) :: r)
    | none => False
def keepO : List Nat → List (Nat × DOwn) → (List (Nat × DOwn) → Prop) → Prop
  | [], _, k => k []
  | t :: ks, ow, k => match fnd1 t ow with
    | some c => keepO ks ow fun r => k ((t, c) :: r)
    | none => False
theorem keepK_get : ∀ {ks : List Nat} {tm : List (Nat × D)} {k : List (Nat × D) → Prop}, keepK ks tm k → ∃ r, k r
  | [], _, _, h => ⟨[], h⟩
  | t :: ks, tm, k, h => by
    unfold keepK at h
    split at h
    · obtain ⟨r, hr⟩ := keepK_get h
      exact ⟨_, hr⟩
    · exact h.elim
theorem keepO_get : ∀ {ks : List Nat} {ow : List (Nat × DOwn)} {k : List (Nat × DOwn) → Prop}, keepO ks ow k → ∃ r, k r
  | [], _, _, h => ⟨[], h⟩
  | t :: ks, tm, k, h => by
    unfold keepO at h
    split at h
    · obtain ⟨r, hr⟩ := keepO_get h
      exact ⟨_, hr⟩
    · exact h.elim
section
variable {P : Program} {b : Ba}
theorem ev_loopK {ι : Type} (ks os : List Nat) (N : Nat) (chg : ι → List (Nat × D)) (ochg : ι → List (Nat × DOwn)) (μ : ι → Nat) (x0 : ι) {c : Code} {tm : List (Nat × D)} {ow : List (Nat × DOwn)} {nx : Nat} {K : Exit → DS → Prop}
    (h : keepK ks tm fun base => keepO os ow fun ob => LeD ⟨tm, ow, nx⟩ ⟨chg x0 ++ base, ochg x0 ++ ob, N⟩ ∧ ∀ x, Ev P b c ⟨chg x ++ base, ochg x ++ ob, N⟩ (exL (fun x => ⟨chg x ++ base, ochg x ++ ob, N⟩) μ x K)) : Ev P b (.loop c) ⟨tm, ow, nx⟩ K := by
  obtain ⟨base, h1⟩ := keepK_get h
  obtain ⟨ob, h2, h3⟩ := keepO_get h1
  exact ev_loop (fun x => ⟨chg x ++ base, ochg x ++ ob, N⟩) μ x0 h2 h3
theorem ev_tell (ks os : List Nat) (N : Nat) (chg : List (Nat × D)) (ochg : List (Nat × DOwn)) {c : Code} {tm : List (Nat × D)} {ow : List (Nat × DOwn)} {nx : Nat} {K : Exit → DS → Prop}
    (h : keepK ks tm fun base => keepO os ow fun ob => LeD ⟨tm, ow, nx⟩ ⟨chg ++ base, ochg ++ ob, N⟩ ∧ Ev P b c ⟨chg ++ base, ochg ++ ob, N⟩ K) : Ev P b c ⟨tm, ow, nx⟩ K := by
  obtain ⟨base, h1⟩ := keepK_get h
  obtain ⟨ob, h2, h3⟩ := keepO_get h1
  exact ev_le _ h2 h3
theorem ev_len {α : Type} (t : Nat) {m : Bool} {sz : Nat} {l : List α} {f : α → List D} {e : α} {c : Code} {S : DS} {K : Exit → DS → Prop} (h0 : fnd1 t S.tm = some (.sl m sz l f e)) (h : l.length ≤ 9223372036854775807 → Ev P b c S K) : Ev P b c S K := by
  intro w s g a Q hr hK
  obtain ⟨v, h1, h2⟩ := hr.tm t (D.sl m sz l f e).tv (by show fnd t (tvs S.tm) = _; rw [fnd_tvs, h0]; rfl)
  obtain ⟨a', cap, h3, h4, h5, _⟩ := h2
  rw [List.length_map] at h4
  exact h (by omega) w s g a Q hr hK
theorem ini {n : Int} (h1 : -9223372036854775808 ≤ n) (h2 : n ≤ 9223372036854775807) : InI n := ⟨h1, h2⟩
theorem sat_needA {P : Program} {K : DS → Prop} {p : Prop} {r : Out} (h : r.sat P K) (h1 : p := by first | exact trivial | omega | exact ini (by omega) (by omega) | (intro hh; simp at hh; exact ini (by omega) (by omega)) | (intro hh; simp at hh ⊢; omega) | (simp at *; omega) | (simp_all; done)) : (Out.need p r).sat P K := ⟨h1, h⟩
theorem sat_impA {P : Program} {K : DS → Prop} {a b : Bool} {r : Out} (h : r.sat P K) (h1 : a = true → b = true := by first | exact fun hh => hh | (intro hh; simp at hh ⊢; first | omega | exact hh | simp_all) | (simp_all; done)) : (Out.imp a b r).sat P K := ⟨h1, h⟩
theorem sat_go {P : Program} {K : DS → Prop} {X Y : Out} (h : Y.sat P K) (hs : Y.sat P K → X.sat P K := by intro h; (repeat (first | refine sat_same ?_ | refine sat_impA ?_ | refine sat_needA ?_)); exact h) : X.sat P K := hs h
end
end Go.Proofs.YtnkjenaanjnihaaGreatDoor


/- The evaluator: a nil slice in a box; rows told in other words. Nothing here speaks of the program. -/
namespace Go.Proofs.YtnkjenaanjnihaaGreatDoor
open Go.RowKit
def RowsP : List (List D) → List (List D) → Prop
  | [], [] => True
  | r :: l, r' :: l' => SubPs r r' ∧ RowsP l l'
  | _, _ => False
theorem RowsP.refl : ∀ l, RowsP l l
  | [] => trivial
  | r :: l => ⟨SubPs.refl r, RowsP.refl l⟩
theorem RowsP.append : ∀ {a b a' b' : List (List D)}, RowsP a a' → RowsP b b' → RowsP (a ++ b) (a' ++ b')
  | [], _, [], _, _, h => h
  | _ :: _, _, _ :: _, _, h, h' => ⟨h.1, h.2.append h'⟩
  | [], _, _ :: _, _, h, _ => h.elim
  | _ :: _, _, [], _, h, _ => h.elim
theorem SubPs.len : ∀ {l l' : List D}, SubPs l l' → l.length = l'.length
  | [], [], _ => rfl
  | _ :: _, _ :: _, h => by simp [h.2.len]
  | [], _ :: _, h => h.elim
  | _ :: _, [], h => h.elim
theorem SubPs.get : ∀ {l l' : List D}, SubPs l l' → ∀ {j : Nat} {d' : D}, l'[j]? = some d' → ∃ d, l[j]? = some d ∧ SubP d d'
  | [], [], _, j, d', hd => by simp at hd
  | d :: l, e :: l', h, 0, d', hd => by simp at hd; subst hd; exact ⟨d, rfl, h.1⟩
  | d :: l, e :: l', h, j + 1, d', hd => by simpa using h.2.get (by simpa using hd)
  | [], _ :: _, h, _, _, _ => h.elim
  | _ :: _, [], h, _, _, _ => h.elim
theorem RowsP.len : ∀ {l l' : List (List D)}, RowsP l l' → l.length = l'.length
  | [], [], _ => rfl
  | _ :: _, _ :: _, h => by simp [h.2.len]
  | [], _ :: _, h => h.elim
  | _ :: _, [], h => h.elim
theorem RowsP.get : ∀ {l l' : List (List D)}, RowsP l l' → ∀ {j : Nat} {d' : List D}, l'[j]? = some d' → ∃ d, l[j]? = some d ∧ SubPs d d'
  | [], [], _, j, d', hd => by simp at hd
  | d :: l, e :: l', h, 0, d', hd => by simp at hd; subst hd; exact ⟨d, rfl, h.1⟩
  | d :: l, e :: l', h, j + 1, d', hd => by simpa using h.2.get (by simpa using hd)
  | [], _ :: _, h, _, _, _ => h.elim
  | _ :: _, [], h, _, _, _ => h.elim
theorem rowsP_sl {m : Bool} {sz : Nat} {rows rows' : List (List D)} (h : RowsP rows rows') {w : World} {s : Sb} {v : Value} (hv : (PV.sl m sz (D.pvss rows)).p w s v) : (PV.sl m sz (D.pvss rows')).p w s v := by
  obtain ⟨a, cap, rfl, h2, h3, h4, h5⟩ := hv
  rw [pvss_length] at h2
  refine ⟨a, cap, by rw [pvss_length, pvss_length, h.len], by rw [pvss_length, ← h.len]; exact h2, h3, fun row hrow => ?_, fun i row hr => ?_⟩
  · rw [pvss_map] at hrow
    obtain ⟨r', hr', rfl⟩ := List.mem_map.1 hrow
    obtain ⟨j, hj⟩ := List.getElem?_of_mem hr'
    obtain ⟨r, hr, hs⟩ := h.get hj
    rw [pvs_length, ← hs.len, ← pvs_length]
    exact h4 _ (by rw [pvss_map]; exact List.mem_map.2 ⟨r, List.mem_of_getElem? hr, rfl⟩)
  · rw [pvss_map, List.getElem?_map] at hr
    cases hq : rows'[i]? with
    | none => rw [hq] at hr; cases hr
    | some r' =>
      rw [hq] at hr; cases hr
      obtain ⟨r, hr, hs⟩ := h.get hq
      obtain ⟨b, off, e1, hc⟩ := h5 i (D.pvs r) (by rw [pvss_map, List.getElem?_map, hr]; rfl)
      refine ⟨b, off, e1, fun j d hd => ?_⟩
      rw [pvs_map, List.getElem?_map] at hd
      cases hq2 : r'[j]? with
      | none => rw [hq2] at hd; cases hd
      | some d' =>
        rw [hq2] at hd; cases hd
        obtain ⟨d0, hd0, hsub⟩ := hs.get hq2
        obtain ⟨u, g1, g2, g3, g4⟩ := hc j d0.pv (by rw [pvs_map, List.getElem?_map, hd0]; rfl)
        exact ⟨u, g1, g2, hsub _ _ _ g3, g4⟩
theorem Sub.ownRows {k sz : Nat} {rows rows' : List (List D)} (h : RowsP rows rows') : Sub (.own k sz rows) (.own k sz rows') := by
  intro w s g v hv
  rw [D.tv, TV.P] at hv ⊢
  refine ⟨rowsP_sl h hv.1, ?_⟩
  have := hv.2
  rw [pvss_length] at this ⊢
  rw [← h.len]; exact this
def setD : Nat → D → List D → List D
  | _, _, [] => []
  | 0, d, _ :: l => d :: l
  | n + 1, d, x :: l => x :: setD n d l
theorem setD_all {w : World} {s : Sb} {g g' : Gh} {d : D} (hg : GLe g g') (hd : d.tv.P w s g' (.slice none 0 0)) : ∀ {n : Nat} {l : List D} {vs : List Value}, getS n l = some (.v (.slice none 0 0)) → AllT w s g (D.tvl l) vs → AllT w s g' (D.tvl (setD n d l)) vs
  | _, [], _, h, _ => by simp [getS] at h
  | _, _ :: _, [], _, hv => by rw [D.tvl] at hv; simp [AllT] at hv
  | 0, x :: l, v :: vs, h, hv => by
    simp only [getS, Option.some.injEq] at h
    subst h
    rw [D.tvl, AllT] at hv
    have h1 : v = .slice none 0 0 := hv.1
    subst h1
    rw [setD, D.tvl, AllT]
    exact ⟨hd, AllT.mono (Ex.refl w s) hg hv.2⟩
  | n + 1, x :: l, v :: vs, h, hv => by
    rw [D.tvl, AllT] at hv
    rw [setD, D.tvl, AllT]
    exact ⟨TV.mono (Ex.refl w s) hg hv.1, setD_all hg hd (by simpa [getS] using h) hv.2⟩
theorem setD_one {d : D} (hd : d.one = true) : ∀ {n : Nat} {l : List D}, (∀ x ∈ D.tvl l, x.one = true) → ∀ x ∈ D.tvl (setD n d l), x.one = true
  | _, [], h => by cases ‹Nat› <;> exact h
  | 0, y :: l, h => by
    rw [setD, D.tvl]
    rw [D.tvl] at h
    intro x hx
    rcases List.mem_cons.1 hx with rfl | hx
    · exact D.tv_one hd
    · exact h x (List.mem_cons_of_mem _ hx)
  | n + 1, y :: l, h => by
    rw [setD, D.tvl]
    rw [D.tvl] at h
    intro x hx
    rcases List.mem_cons.1 hx with rfl | hx
    · exact h _ List.mem_cons_self
    · exact setD_one hd (fun z hz => h z (List.mem_cons_of_mem _ hz)) x hx
section
variable {P : Program} {b : Ba}
theorem ev_nilCell (k off : Nat) (ty : TypeId) (sz : Nat) {c : Code} {tm : List (Nat × D)} {ow : List (Nat × DOwn)} {nx : Nat} {K : Exit → DS → Prop} {bt : TypeId} {cs : List D} (hk : fnd1 k ow = some (.box bt cs)) (ht : getS off cs = some (.v (.slice none 0 0)))
    (h : Ev P b c ⟨tm, (nx, .row ty sz 0) :: (k, .box bt (setD off (.own nx sz []) cs)) :: ow, nx + 1⟩ K) : Ev P b c ⟨tm, ow, nx⟩ K := by
  intro w s g a Q hr hK
  have hfr := hr.fr nx (Nat.le_refl _)
  have hst := Stp.ghostRow (w := w) (s := s) (k := nx) (sz := sz) (e := ty) hr.lt hfr
  have hk0 : fnd k (ows ow) = some (.box bt (D.tvl cs)) := by rw [fnd_ows, hk]; rfl
  have hkn : k ≠ nx := by have := hr.owLt hk0; rintro rfl; exact Nat.lt_irrefl _ this
  have hown : (D.own nx sz []).tv.P w s (g.setRow nx 0 (.slice none 0 0)) (.slice none 0 0) := by
    rw [D.tv, TV.P]; exact ⟨PV.sl_nil, Gh.setRow_eq _ _ _ _⟩
  have key : ∀ {j : Nat} {x : Own}, fnd j ((nx, Own.row ty sz 0) :: (k, Own.box bt (D.tvl (setD off (.own nx sz []) cs))) :: ows ow) = some x →
      (j = nx ∧ x = .row ty sz 0) ∨ (j ≠ nx ∧ ∃ x0, fnd j (ows ow) = some x0 ∧ blk (g.setRow nx 0 (.slice none 0 0)) j x = blk g j x0 ∧ Ok1 w s (g.setRow nx 0 (.slice none 0 0)) j x) := by
    intro j x hj
    rw [fnd_cons] at hj
    by_cases hjn : nx = j
    · simp only [hjn, if_true] at hj; cases hj; exact .inl ⟨hjn.symm, rfl⟩
    · simp only [hjn, if_false] at hj
      rw [fnd_cons] at hj
      by_cases hjk : k = j
      · simp only [hjk, if_true] at hj
        cases hj
        subst hjk
        obtain ⟨N, vs, g1, g2, g3, g4, g5⟩ := (hr.ow k _ hk0).1
        exact .inr ⟨Ne.symm hjn, _, hk0, rfl, N, vs, g1, g2, setD_all hst.gle hown ht g3, setD_one rfl g4, g5⟩
      · simp only [hjk, if_false] at hj
        have h1 := (hr.ow j x hj).1
        have hsame := hst.same j (by rw [fnd_cons]; simp [hjn, fnd])
        exact .inr ⟨Ne.symm hjn, x, hj, blk_keep h1 hst.gle, h1.keep (Ex.refl w s) hst.gle hsame.2 (fun _ _ => rfl) (fun _ _ _ h => h)⟩
  refine h w s (g.setRow nx 0 (.slice none 0 0)) a Q ⟨hr.kp, hr.lt, hr.sz, fun u d hd => ?_, fun j x hj => ?_, fun j j' x x' N hj hj' hne hb => ?_, fun j hj => ?_, hr.df, fun k hk => ⟨(hr.gb k hk).1, fun m v e => hst.gle.gn k m v ((hr.gb k hk).2 m v e)⟩⟩ hK
  · obtain ⟨v, h1, h2⟩ := hr.tm u d hd
    exact ⟨v, h1, TV.mono (Ex.refl w s) hst.gle h2⟩
  · rcases key hj with ⟨rfl, rfl⟩ | ⟨_, x0, g1, g2, g3⟩
    · refine ⟨hst.ok _ _ (by rw [fnd_cons]; simp), fun N hN => ?_⟩
      rw [blk_row (Gh.setRow_eq _ _ _ _)] at hN
      cases hN
    · exact ⟨g3, fun N hN => (hr.ow j x0 g1).2 N (by rw [← g2]; exact hN)⟩
  · intro hb'
    rcases key hj with ⟨rfl, rfl⟩ | ⟨_, x0, g1, g2, g3⟩
    · rw [blk_row (Gh.setRow_eq _ _ _ _)] at hb; cases hb
    · rcases key hj' with ⟨rfl, rfl⟩ | ⟨_, x1, g4, g5, g6⟩
      · rw [blk_row (Gh.setRow_eq _ _ _ _)] at hb'; cases hb'
      · rw [g2] at hb
        rw [g5] at hb'
        exact hr.sep j j' x0 x1 N g1 g4 hne hb hb'
  · have hj' : nx + 1 ≤ j := hj
    obtain ⟨f1, f2⟩ := hr.fr j (by show nx ≤ j; omega)
    exact ⟨f1, fun m => by rw [Gh.setRow_ne _ _ (by omega)]; exact f2 m⟩
end
end Go.Proofs.YtnkjenaanjnihaaGreatDoor


/- The evaluator: rows that stop turning, functions that turn what they are handed. Nothing here speaks of the program. -/
namespace Go.Proofs.YtnkjenaanjnihaaGreatDoor
open Go.RowKit
def FnG (P : Program) (f : FuncId) (args : List D) (own : List DOwn) (out : D) (own' : List DOwn) : Prop := GFun P f (D.tvl args) (ows (enumO 0 own)) out.tv (ows (enumO 0 own'))
section
variable {P : Program} {K : DS → Prop}
theorem sat_fnL (out : D) {f : FuncId} {args : List D} {r : D → Out} (hF : Fn P f args out) (hfl : out.flat = true) (hs : out.str = true) (h : (r out).sat P K) : (Out.callL none f args r).sat P K := ⟨out, fun _ => hF, hfl, hs, h⟩
theorem sat_fnH (out : D) (own' : List DOwn) {f : FuncId} {args : List D} {n : Nat} {own : List DOwn} {r : D → List DOwn → Out} (hF : FnG P f args own out own') (hc : chkG n out own' = true) (h : (r out own').sat P K) : (Out.callG f args n own r).sat P K := ⟨out, own', hF, hc, h⟩
end
def frzD (k sz : Nat) (m : MR) : D → D
  | .mo k' n => match Nat.beq k' k with
    | true => .own k sz m.rows
    | false => .mo k' n
  | .mw k' q i z n => match Nat.beq k' k with
    | true => .slr false sz ((m.rows.drop i).take n)
    | false => .mw k' q i z n
  | d => d
def frzL (k sz : Nat) (m : MR) : List D → List D
  | [] => []
  | d :: l => frzD k sz m d :: frzL k sz m l
def frzT (k sz : Nat) (m : MR) : List (Nat × D) → List (Nat × D)
  | [] => []
  | (t, d) :: l => (t, frzD k sz m d) :: frzT k sz m l
def frzO (k : Nat) (e : TypeId) (sz : Nat) (m : MR) : List (Nat × DOwn) → List (Nat × DOwn)
  | [] => []
  | (j, c) :: l => (match Nat.beq j k with
    | true => (j, .row e sz m.rows.length)
    | false => match c with
      | .box t cs => (j, .box t (frzL k sz m cs))
      | c => (j, c)) :: frzO k e sz m l
def frzC (k sz : Nat) (m : MR) : D → Prop
  | .mo k' n => k' = k → n = m.len
  | .mw k' q _ z _ => k' = k → q = m.len ∧ z = sz
  | _ => True
def frzCL (k sz : Nat) (m : MR) : List D → Prop
  | [] => True
  | d :: l => frzC k sz m d ∧ frzCL k sz m l
def frzCT (k sz : Nat) (m : MR) : List (Nat × D) → Prop
  | [] => True
  | (_, d) :: l => (match d with | .mo k' n => (match Nat.beq k' k with | true => n = m.len | false => True) | .mw k' q _ z _ => (match Nat.beq k' k with | true => q = m.len ∧ z = sz | false => True) | _ => True) ∧ frzCT k sz m l
def frzCO (k sz : Nat) (m : MR) : List (Nat × DOwn) → Prop
  | [] => True
  | (_, .box _ cs) :: l => frzCL k sz m cs ∧ frzCO k sz m l
  | _ :: l => frzCO k sz m l
theorem frzT_fnd {k sz : Nat} {m : MR} : ∀ {l : List (Nat × D)} {t : Nat}, fnd1 t (frzT k sz m l) = (fnd1 t l).map (frzD k sz m)
  | [], _ => rfl
  | (u, d) :: l, t => by
    show fnd1 t ((u, frzD k sz m d) :: frzT k sz m l) = _
    rw [fnd1_cons, fnd1_cons]
    by_cases h : u = t
    · simp [h]
    · rw [if_neg h, if_neg h]; exact frzT_fnd
theorem frzCT_get {k sz : Nat} {m : MR} : ∀ {l : List (Nat × D)} {t : Nat} {d : D}, frzCT k sz m l → fnd1 t l = some d → frzC k sz m d
  | [], _, _, _, h => by cases h
  | (u, e) :: l, t, d, hc, h => by
    rw [fnd1_cons] at h
    by_cases hu : u = t
    · rw [if_pos hu] at h; cases h
      have h1 := hc.1
      cases e with
      | mo k' n =>
        intro e'
        subst e'
        have h1 : (match Nat.beq k' k' with | true => n = m.len | false => True) := h1
        rw [Nat.beq_refl] at h1
        exact h1
      | mw k' q i z n =>
        intro e'
        subst e'
        have h1 : (match Nat.beq k' k' with | true => q = m.len ∧ z = sz | false => True) := h1
        rw [Nat.beq_refl] at h1
        exact h1
      | _ => trivial
    · rw [if_neg hu] at h; exact frzCT_get hc.2 h
theorem frzD_ok {w : World} {s s' : Sb} {g : Gh} {k sz : Nat} {m : MR} (hx : Ex w s w s') (hmo : ∀ v, (TV.mo k (D.pvss m.rows).length).P w s g v → (TV.own k sz (D.pvss m.rows)).P w s' g v) {d : D} (hc : frzC k sz m d) {v : Value} (hv : d.tv.P w s g v) : (frzD k sz m d).tv.P w s' g v := by
  have plain : d.tv.P w s' g v := TV.mono hx (GLe.refl g) hv
  cases d with
  | mo k' n =>
    show (match Nat.beq k' k with | true => D.own k sz m.rows | false => D.mo k' n).tv.P w s' g v
    cases hb : Nat.beq k' k with
    | false => exact plain
    | true =>
      have e := Nat.eq_of_beq_eq_true hb
      subst e
      rw [D.tv] at hv
      have hn : n = m.len := hc rfl
      rw [hn, ← MR.len_rows, ← pvss_length] at hv
      show (D.own k' sz m.rows).tv.P w s' g v
      rw [D.tv]
      exact hmo v hv
  | mw k' q i z n =>
    show (match Nat.beq k' k with | true => D.slr false sz ((m.rows.drop i).take n) | false => D.mw k' q i z n).tv.P w s' g v
    cases hb : Nat.beq k' k with
    | false => exact plain
    | true =>
      have e := Nat.eq_of_beq_eq_true hb
      subst e
      rw [D.tv] at hv
      obtain ⟨hq, hz⟩ := hc rfl
      subst hz
      rw [hq, ← MR.len_rows, ← pvss_length] at hv
      show (PV.sl false z (D.pvss ((m.rows.drop i).take n))).p w s' v
      rw [pvss_map ((m.rows.drop i).take n), List.map_take, List.map_drop, ← pvss_map]
      exact mw_frozen hmo hv
  | _ => exact plain
theorem frzL_ok {w : World} {s s' : Sb} {g : Gh} {k sz : Nat} {m : MR} (hx : Ex w s w s') (hmo : ∀ v, (TV.mo k (D.pvss m.rows).length).P w s g v → (TV.own k sz (D.pvss m.rows)).P w s' g v) : ∀ {l : List D} {vs : List Value}, frzCL k sz m l → AllT w s g (D.tvl l) vs → AllT w s' g (D.tvl (frzL k sz m l)) vs
  | [], vs, _, hv => by cases vs with | nil => rw [frzL, D.tvl]; trivial | cons _ _ => exact hv.elim
  | d :: l, [], _, hv => by rw [D.tvl] at hv; exact hv.elim
  | d :: l, v :: vs, hc, hv => by
    rw [D.tvl] at hv
    rw [frzL, D.tvl]
    exact ⟨frzD_ok hx hmo hc.1 hv.1, frzL_ok hx hmo hc.2 hv.2⟩
theorem frzL_one {k sz : Nat} {m : MR} : ∀ {l : List D}, (∀ d ∈ D.tvl l, d.one = true) → ∀ d ∈ D.tvl (frzL k sz m l), d.one = true
  | [], _, d, hd => by rw [frzL, D.tvl] at hd; cases hd
  | x :: l, h, d, hd => by
    rw [frzL, D.tvl] at hd
    rw [D.tvl] at h
    rcases List.mem_cons.1 hd with rfl | hd
    · have h1 := h x.tv (by simp)
      cases x with
      | mo k' n =>
        show (match Nat.beq k' k with | true => D.own k sz m.rows | false => D.mo k' n).tv.one = true
        cases Nat.beq k' k <;> rfl
      | mw k' q i z n =>
        show (match Nat.beq k' k with | true => D.slr false sz ((m.rows.drop i).take n) | false => D.mw k' q i z n).tv.one = true
        cases Nat.beq k' k <;> rfl
      | _ => exact h1
    · exact frzL_one (fun y hy => h y (by simp [hy])) d hd
theorem frzO_fnd {k : Nat} {e : TypeId} {sz : Nat} {m : MR} : ∀ {l : List (Nat × DOwn)} {j : Nat} {c : DOwn}, fnd1 j (frzO k e sz m l) = some c → ∃ c0, fnd1 j l = some c0 ∧ ((j = k ∧ c = .row e sz m.rows.length) ∨ (j ≠ k ∧ ((∃ t cs, c0 = .box t cs ∧ c = .box t (frzL k sz m cs)) ∨ (c = c0 ∧ ∀ t cs, c0 ≠ .box t cs))))
  | [], _, _, h => by cases h
  | (i, c0) :: l, j, c, h => by
    unfold frzO at h
    have step : ∀ x : DOwn, fnd1 j ((i, x) :: frzO k e sz m l) = some c → (i = j ∧ x = c) ∨ (i ≠ j ∧ fnd1 j (frzO k e sz m l) = some c) := fun x hx => by
      rw [fnd1_cons] at hx
      by_cases hi : i = j
      · rw [if_pos hi] at hx; exact .inl ⟨hi, Option.some.inj hx⟩
      · rw [if_neg hi] at hx; exact .inr ⟨hi, hx⟩
    have rest : i ≠ j → fnd1 j (frzO k e sz m l) = some c → ∃ c0', fnd1 j ((i, c0) :: l) = some c0' ∧ ((j = k ∧ c = .row e sz m.rows.length) ∨ (j ≠ k ∧ ((∃ t cs, c0' = .box t cs ∧ c = .box t (frzL k sz m cs)) ∨ (c = c0' ∧ ∀ t cs, c0' ≠ .box t cs)))) := fun hi hx => by
      obtain ⟨c1, h1, h2⟩ := frzO_fnd hx
      exact ⟨c1, by rw [fnd1_cons, if_neg hi]; exact h1, h2⟩
    cases hb : Nat.beq i k with
    | true =>
      rw [hb] at h
      have hik := Nat.eq_of_beq_eq_true hb
      rcases step _ h with ⟨rfl, rfl⟩ | ⟨hi, hx⟩
      · exact ⟨c0, by rw [fnd1_cons]; simp, .inl ⟨hik, rfl⟩⟩
      · exact rest hi hx
    | false =>
      rw [hb] at h
      have hik : i ≠ k := by rintro rfl; rw [Nat.beq_refl] at hb; cases hb
      cases c0 with
      | box t cs =>
        rcases step _ h with ⟨rfl, rfl⟩ | ⟨hi, hx⟩
        · exact ⟨_, by rw [fnd1_cons]; simp, .inr ⟨hik, .inl ⟨t, cs, rfl, rfl⟩⟩⟩
        · exact rest hi hx
      | row _ _ _ =>
        rcases step _ h with ⟨rfl, rfl⟩ | ⟨hi, hx⟩
        · exact ⟨_, by rw [fnd1_cons]; simp, .inr ⟨hik, .inr ⟨rfl, fun _ _ h => by cases h⟩⟩⟩
        · exact rest hi hx
      | mrow _ _ _ =>
        rcases step _ h with ⟨rfl, rfl⟩ | ⟨hi, hx⟩
        · exact ⟨_, by rw [fnd1_cons]; simp, .inr ⟨hik, .inr ⟨rfl, fun _ _ h => by cases h⟩⟩⟩
        · exact rest hi hx
      | map _ =>
        rcases step _ h with ⟨rfl, rfl⟩ | ⟨hi, hx⟩
        · exact ⟨_, by rw [fnd1_cons]; simp, .inr ⟨hik, .inr ⟨rfl, fun _ _ h => by cases h⟩⟩⟩
        · exact rest hi hx
      | itr _ =>
        rcases step _ h with ⟨rfl, rfl⟩ | ⟨hi, hx⟩
        · exact ⟨_, by rw [fnd1_cons]; simp, .inr ⟨hik, .inr ⟨rfl, fun _ _ h => by cases h⟩⟩⟩
        · exact rest hi hx
theorem frzCO_get {k sz : Nat} {m : MR} : ∀ {l : List (Nat × DOwn)} {j : Nat} {t : TypeId} {cs : List D}, frzCO k sz m l → fnd1 j l = some (.box t cs) → frzCL k sz m cs
  | [], _, _, _, _, h => by cases h
  | (i, c) :: l, j, t, cs, hc, h => by
    rw [fnd1_cons] at h
    by_cases hi : i = j
    · rw [if_pos hi] at h
      cases h
      exact hc.1
    · rw [if_neg hi] at h
      cases c with
      | box _ _ => exact frzCO_get (l := l) hc.2 h
      | row _ _ _ => exact frzCO_get (l := l) hc h
      | mrow _ _ _ => exact frzCO_get (l := l) hc h
      | map _ => exact frzCO_get (l := l) hc h
      | itr _ => exact frzCO_get (l := l) hc h
section
variable {P : Program} {b : Ba}
theorem ev_freeze (k : Nat) {e : TypeId} {sz : Nat} {m : MR} {c : Code} {tm : List (Nat × D)} {ow : List (Nat × DOwn)} {nx : Nat} {K : Exit → DS → Prop} (hk : fnd1 k ow = some (.mrow e sz m)) (hc : frzCT k sz m tm) (hco : frzCO k sz m ow)
    (h : Ev P b c ⟨frzT k sz m tm, frzO k e sz m ow, nx⟩ K) : Ev P b c ⟨tm, ow, nx⟩ K := by
  intro w s g a Q hr hK
  have hk0 : fnd k (ows ow) = some (.mrow e sz (D.pvss m.rows)) := by rw [fnd_ows, hk]; rfl
  obtain ⟨hok, hblk⟩ := hr.ow k _ hk0
  obtain ⟨p, hp, hrow, hmo⟩ := hok.freeze
  have hx : Ex w s w (s.add p) := ⟨fun _ _ h => .inl h, fun _ _ _ => rfl, fun _ _ h => .inl h⟩
  have hbk : blk g k (.row e sz (D.pvss m.rows).length) = blk g k (.mrow e sz (D.pvss m.rows)) := rfl
  have hlt : ∀ B o, p B o → B < w.heap.size := fun B o hpo => hok.lt (hp B o hpo).1
  have hkeep : ∀ {j : Nat} {c : Own}, fnd j (ows ow) = some c → j ≠ k → ∀ N o, blk g j c = some N → (s.add p) N o → s N o := fun {j c} hj hne N o hb hs => by
    rcases hs with hs | hs
    · exact hs
    · exact absurd hb (hr.sep k j _ c N hk0 hj (Ne.symm hne) (hp N o hs).1)
  have howf : ∀ {j : Nat} {c : Own}, fnd j (ows (frzO k e sz m ow)) = some c → ∃ c0, fnd j (ows ow) = some c0 ∧ Ok1 w (s.add p) g j c ∧ blk g j c = blk g j c0 := fun {j c} hj => by
    rw [fnd_ows] at hj
    cases hq : fnd1 j (frzO k e sz m ow) with
    | none => rw [hq] at hj; cases hj
    | some d =>
      rw [hq] at hj
      cases hj
      obtain ⟨c0, h1, h2⟩ := frzO_fnd hq
      have h1' : fnd j (ows ow) = some c0.o := by rw [fnd_ows, h1]; rfl
      refine ⟨c0.o, h1', ?_⟩
      rcases h2 with ⟨rfl, rfl⟩ | ⟨hne, ⟨t, cs, rfl, rfl⟩ | ⟨rfl, _⟩⟩
      · rw [hk] at h1
        cases h1
        show Ok1 w (s.add p) g j (.row e sz m.rows.length) ∧ blk g j (.row e sz m.rows.length) = blk g j (.mrow e sz (D.pvss m.rows))
        rw [← pvss_length]
        exact ⟨hrow, rfl⟩
      · obtain ⟨N, vs, g1, g2, g3, g4, g5⟩ := (hr.ow j _ h1').1
        have hns : ∀ o, ¬ (s.add p) N o := fun o ho => g5 o (hkeep h1' hne N o g1 ho)
        exact ⟨⟨N, vs, g1, g2, frzL_ok hx hmo (frzCO_get hco h1) g3, frzL_one g4, hns⟩, rfl⟩
      · exact ⟨(hr.ow j _ h1').1.keep hx (GLe.refl g) (fun _ => rfl) (fun _ _ => rfl) (fun N o hb hs => hkeep h1' hne N o hb hs), rfl⟩
  refine h w (s.add p) g a Q ⟨⟨hr.kp.ex.trans hx, fun B o hs => ?_, fun B o hs => ?_, hr.kp.os, hr.kp.tape, hr.kp.output, hr.kp.size, hr.kp.block, hr.kp.gl⟩, fun B o hs => hs.elim (hr.lt B o) (hlt B o), hr.sz, fun t d hd => ?_, fun j c hj => ?_, fun j j' c c' N h1 h2 hne hb => ?_, hr.fr, hr.df, hr.gb⟩ hK
  · rcases hs with hs | hs
    · exact hr.kp.st B o hs
    · exact .inr (hblk B (hp B o hs).1)
  · rcases hs with hs | hs
    · exact hr.kp.sst B o hs
    · exact .inr (hblk B (hp B o hs).1)
  · have hd' : fnd t (tvs (frzT k sz m tm)) = some d := hd
    rw [fnd_tvs, frzT_fnd] at hd'
    cases hq : fnd1 t tm with
    | none => rw [hq] at hd'; cases hd'
    | some x =>
      rw [hq] at hd'
      cases hd'
      obtain ⟨v, h1, h2⟩ := hr.tm t x.tv (by show fnd t (tvs tm) = _; rw [fnd_tvs, hq]; rfl)
      exact ⟨v, h1, frzD_ok hx hmo (frzCT_get hc hq) h2⟩
  · obtain ⟨c0, h1, h2, h3⟩ := howf hj
    exact ⟨h2, fun N hb => (hr.ow j c0 h1).2 N (by rw [← h3]; exact hb)⟩
  · obtain ⟨c0, e1, _, e3⟩ := howf h1
    obtain ⟨d0, f1, _, f3⟩ := howf h2
    rw [f3]
    exact hr.sep j j' c0 d0 N e1 f1 hne (by rw [← e3]; exact hb)
end
def resH (T : List (Nat × TI)) (S : DS) : ResultVar → Option D
  | .tmp t => fnd1 t S.tm
  | .cell t ty => match fnd1 t S.tm with
    | some (.bp k off) => match fnd1 k S.ow with
      | some (.box _ cs) => match cls T ty with
        | some (some n) => match takeS (fun _ => true) n (dropS off cs) with
          | some r => some (.agg r)
          | none => none
        | some none => getS off cs
        | none => none
      | _ => none
    | _ => none
def finH (T : List (Nat × TI)) (S : DS) : List ResultVar → Option D
  | [] => some (.v (.tuple #[]))
  | [r] => resH T S r
  | [r, q] => match resH T S r, resH T S q with
    | some a, some b => some (.tpo [a, b])
    | _, _ => none
  | [r, q, x] => match resH T S r, resH T S q, resH T S x with
    | some a, some b, some c => some (.tpo [a, b, c])
    | _, _, _ => none
  | _ => none
def ownsLe (ks : List Nat) (kk : Nat) (ow : List (Nat × DOwn)) : Nat → List DOwn → Prop
  | _, [] => True
  | i, c :: l => (match fnd1 (rhoK ks kk i) ow with
    | some c0 => SubO c0 (c.ren (rhoK ks kk))
    | none => False) ∧ ownsLe ks kk ow (i + 1) l
def iota : Nat → List Nat
  | 0 => []
  | n + 1 => iota n ++ [n]
theorem iota_range : ∀ n, iota n = List.range n
  | 0 => rfl
  | n + 1 => by rw [iota, iota_range n, List.range_succ]
def FinH (T : List (Nat × TI)) (rs : List ResultVar) (n0 : Nat) (out : D) (own' : List DOwn) (ex : Exit) (S : DS) : Prop :=
  (ex = .ret ∨ ex = .normal) ∧ ∃ kk d, n0 ≤ kk ∧ finH T S rs = some d ∧ Sub d (out.ren (rhoK (iota n0) kk)) ∧ ownsLe (iota n0) kk S.ow 0 own'
theorem FinH.ret {T : List (Nat × TI)} {rs : List ResultVar} {n0 : Nat} {out d : D} {own' : List DOwn} {S : DS} (kk : Nat) (hk : Nat.ble n0 kk = true) (h : finH T S rs = some d) (hs : Sub d (out.ren (rhoK (iota n0) kk))) (ho : ownsLe (iota n0) kk S.ow 0 own') : FinH T rs n0 out own' .ret S := ⟨.inl rfl, kk, d, Nat.le_of_ble_eq_true hk, h, hs, ho⟩
theorem rho_iota (n kk i : Nat) : rhoK (iota n) kk i = if i < n then i else kk := by
  rw [iota_range]
  have : ∀ (l : List Nat) (i : Nat), rhoK l kk i = (l[i]?).getD kk := by
    intro l
    induction l with
    | nil => intro i; rfl
    | cons j l ih => intro i; cases i with | zero => rfl | succ i => simpa [rhoK] using ih i
  rw [this]
  by_cases h : i < n <;> simp [h]
theorem enum_key {l : List DOwn} {n : Nat} (hl : l.length ≤ n) (hid : ∀ c ∈ l, idO n c.o = true) : KeyOk n (ows (enumO 0 l)) := by
  have hmem : ∀ {i : Nat} {l : List DOwn} {x : Nat × DOwn}, x ∈ enumO i l → i ≤ x.1 ∧ l[x.1 - i]? = some x.2 := by
    intro i l
    induction l generalizing i with
    | nil => intro x hx; cases hx
    | cons c l ih =>
      intro x hx
      rcases List.mem_cons.1 hx with rfl | hx
      · simp
      · obtain ⟨h1, h2⟩ := ih hx
        refine ⟨by omega, ?_⟩
        rw [show x.1 - i = (x.1 - (i + 1)) + 1 by omega]; simpa using h2
  have hget : ∀ k, fnd k (ows (enumO 0 l)) = (l[k]?).map DOwn.o := fun k => by rw [fnd_ows, enumO_get]; simp
  have hm2 : ∀ x ∈ ows (enumO 0 l), ∃ c, l[x.1]? = some c ∧ x.2 = c.o := by
    intro x hx
    obtain ⟨y, hy, rfl⟩ := List.mem_map.1 hx
    exact ⟨y.2, by simpa using (hmem hy).2, rfl⟩
  refine ⟨fun x hx => ?_, fun x hx => ?_, fun k c hk => ?_⟩
  · obtain ⟨c, h1, _⟩ := hm2 x hx
    have := (List.getElem?_eq_some_iff.1 h1).1
    omega
  · obtain ⟨c, h1, h2⟩ := hm2 x hx
    rw [h2]; exact hid c (List.mem_of_getElem? h1)
  · obtain ⟨c', h1, h2⟩ := hm2 _ hk
    rw [hget, h1]
    exact congrArg some h2.symm
theorem enum_fnd (l : List DOwn) (k : Nat) : fnd k (ows (enumO 0 l)) = (l[k]?).map DOwn.o := by rw [fnd_ows, enumO_get]; simp
theorem argG_tvs : ∀ (i : Nat) (l : List D), argG i (D.tvl l) = tvs (argD i l)
  | _, [] => rfl
  | i, d :: l => by
    show (i, d.tv) :: argG (i + 1) (D.tvl l) = (i, d.tv) :: tvs (argD (i + 1) l)
    rw [argG_tvs]
section
variable {P : Program} {T : List (Nat × TI)} (hT : tabOk P T = true)
include hT
theorem resH_ok {S : DS} {r : ResultVar} {d : D} (h : resH T S r = some d) : Res1T P S.ste r d.tv := by
  unfold resH at h
  split at h
  · rename_i t
    show fnd t (tvs S.tm) = some d.tv
    rw [fnd_tvs, h]; rfl
  · rename_i t ty
    split at h
    · rename_i k off ht
      split at h
      · rename_i bt cs hk
        have h1 : fnd t S.ste.tm = some (.bp k off) := by show fnd t (tvs S.tm) = _; rw [fnd_tvs, ht]; rfl
        have h2 : fnd k S.ste.ow = some (.box bt (D.tvl cs)) := by show fnd k (ows S.ow) = _; rw [fnd_ows, hk]; rfl
        split at h
        · rename_i n hc
          split at h
          · rename_i r hr
            cases h
            obtain ⟨g1, _, g3⟩ := takeS_some hr
            rw [dropS_eq] at g1 g3
            simp only [List.length_drop] at g1
            refine ⟨k, off, bt, _, h1, h2, .inr ⟨n, (cls_row hT hc).2, by have := (cls_row hT hc).1; rw [tvl_length]; omega, ?_⟩⟩
            rw [D.tv, g3, tvl_map, tvl_map, List.map_take, List.map_drop]
          · cases h
        · rename_i hc
          rw [getS_eq] at h
          exact ⟨k, off, bt, _, h1, h2, .inl ⟨cls_one hT hc, by rw [tvl_map]; simp [h]⟩⟩
        · cases h
      · cases h
    · cases h
theorem finH_ok {S : DS} {rs : List ResultVar} {d : D} {ex : Exit} (he : ex = .ret ∨ ex = .normal) (h : finH T S rs = some d) : FinT P rs.toArray d.tv ex S.ste := by
  refine ⟨he, ?_⟩
  match rs, h with
  | [], h => cases h; rfl
  | [r], h => exact resH_ok hT h
  | [r, q], h =>
    have h : (match resH T S r, resH T S q with | some a, some b => some (D.tpo [a, b]) | _, _ => none) = some d := h
    cases ha : resH T S r with
    | none => rw [ha] at h; cases h
    | some a =>
      cases hb : resH T S q with
      | none => rw [ha, hb] at h; cases h
      | some b => rw [ha, hb] at h; cases h; exact ⟨a.tv, b.tv, resH_ok hT ha, resH_ok hT hb, rfl⟩
  | [r, q, x], h =>
    have h : (match resH T S r, resH T S q, resH T S x with | some a, some b, some c => some (D.tpo [a, b, c]) | _, _, _ => none) = some d := h
    cases ha : resH T S r with
    | none => rw [ha] at h; cases h
    | some a =>
      cases hb : resH T S q with
      | none => rw [ha, hb] at h; cases h
      | some b =>
        cases hc : resH T S x with
        | none => rw [ha, hb, hc] at h; cases h
        | some c => rw [ha, hb, hc] at h; cases h; exact ⟨a.tv, b.tv, c.tv, resH_ok hT ha, resH_ok hT hb, resH_ok hT hc, rfl⟩
  | _ :: _ :: _ :: _ :: _, h => cases h
def chkA (args : List D) (own : List DOwn) : Bool := match Nat.ble own.length 40 with
  | true => match idBs own.length (D.tvl args) with
    | true => idOs own.length own
    | false => false
  | false => false
theorem fnH_ev {f : FuncId} {fn : Func} {c : Code} {n : Nat} {args : List D} {own own' : List DOwn} {rs : List ResultVar} {out : D} (hf : P.funcs[f]? = some fn) (hb : fn.body = some c) (hn : fn.ntmps = n) (hr : fn.results = rs.toArray) (hm : (fn.name == "runtime.NumGoroutine") = false) (hl : Nat.ble args.length n = true) (ha : chkA args own = true) (hg : chkG own.length out own' = true)
    (h : ∀ (w0 : World) (s0 : Sb) (mx : (Nat → Prop) × Gh), Ev P ⟨w0, s0, mx.1, n, mx.2⟩ c ⟨argD 0 args, enumO 0 own, own.length⟩ (FinH T rs own.length out own')) : FnG P f args own out own' := by
  obtain ⟨c1, c2, c3, c4⟩ := chkG_ok hg
  have hA : own.length ≤ 40 ∧ idBs own.length (D.tvl args) = true ∧ ∀ c ∈ own, idO own.length c.o = true := by
    unfold chkA at ha
    cases h1 : Nat.ble own.length 40 with
    | false => rw [h1] at ha; cases ha
    | true =>
      cases h2 : idBs own.length (D.tvl args) with
      | false => rw [h1, h2] at ha; cases ha
      | true => rw [h1, h2] at ha; exact ⟨Nat.le_of_ble_eq_true h1, rfl, idOs_mem ha⟩
  obtain ⟨a1, a2, a3⟩ := hA
  refine GFun.of hf hb hn hm (by rw [tvl_length]; exact Nat.le_of_ble_eq_true hl) (enum_key (Nat.le_refl _) a3) a2 c1 a1 (enum_key (Nat.le_refl _) c4) c3 (fun k hk => ⟨_, by rw [enum_fnd, List.getElem?_eq_getElem hk]; rfl⟩) (fun k hk => ⟨_, by rw [enum_fnd, List.getElem?_eq_getElem hk]; rfl⟩) fun b hb' => ?_
  obtain ⟨w0, s0, mx, sz, g0⟩ := b
  have hb' : sz = n := hb'
  subst hb'
  intro w s g a Q hrel hK
  refine h w0 s0 (mx, g0) w s g a Q (by rw [argG_tvs] at hrel; exact hrel) fun ex w' s' g' a' S' h1 h2 => hK ex w' s' g' a' S'.ste h1 ?_
  obtain ⟨he, kk, d, hkk, hd, hs, ho⟩ := h2
  refine ⟨rhoK (iota own.length) kk, fun k hk => by rw [rho_iota, if_pos hk], fun k hk => by rw [rho_iota, if_neg (by omega)]; exact hkk, fun i j hi hj e => ?_, ⟨d.tv, ?_, fun w s g v hv => by rw [← D.ren_tv]; exact hs w s g v hv⟩, fun k c hc => ?_⟩
  · rw [rho_iota, rho_iota] at e
    by_cases h3 : i < own.length <;> by_cases h4 : j < own.length <;> simp only [h3, h4, if_true, if_false] at e <;> omega
  · rw [hr]; exact finH_ok hT he hd
  · rw [enum_fnd] at hc
    have key : ∀ {i : Nat} {l : List DOwn} {m : Nat} {c : DOwn}, ownsLe (iota own.length) kk S'.ow i l → l[m]? = some c → ∃ c0, fnd1 (rhoK (iota own.length) kk (i + m)) S'.ow = some c0 ∧ SubO c0 (c.ren (rhoK (iota own.length) kk)) := by
      intro i l
      induction l generalizing i with
      | nil => intro m c _ hm; simp at hm
      | cons x l ih =>
        intro m c hle hm
        obtain ⟨h3, h4⟩ := hle
        cases m with
        | zero =>
          simp at hm
          subst hm
          cases hq : fnd1 (rhoK (iota own.length) kk i) S'.ow with
          | none => rw [hq] at h3; exact h3.elim
          | some c0 => rw [hq] at h3; exact ⟨c0, by first | rfl | (rw [Nat.add_zero]; exact hq), h3⟩
        | succ m =>
          have := ih h4 (m := m) (by simpa using hm)
          rw [show i + (m + 1) = i + 1 + m by omega]; exact this
    cases hq : own'[k]? with
    | none => rw [hq] at hc; cases hc
    | some c' =>
      rw [hq] at hc
      cases hc
      obtain ⟨c0, h3, h4⟩ := key ho hq
      rw [Nat.zero_add] at h3
      refine ⟨c0.o, by show fnd _ (ows S'.ow) = _; rw [fnd_ows, h3]; rfl, fun w s g hok => ?_⟩
      rw [← DOwn.ren_o]
      exact h4.ok hok
end
end Go.Proofs.YtnkjenaanjnihaaGreatDoor


/- The evaluator: one line for one region, one for one condition. Nothing here speaks of the program. -/
namespace Go.Proofs.YtnkjenaanjnihaaGreatDoor
open Go.RowKit
section
variable {P : Program} {b : Ba} {T : List (Nat × TI)} (hT : tabOk P T = true)
include hT
theorem ev_R (fls : List Nat) {id : Nat} {l : List Oper} {tm : List (Nat × D)} {ow : List (Nat × DOwn)} {nx0 : Nat} (nx1 : Nat) {y : Code} {S : DS} {K : Exit → DS → Prop} (h : Ev P b y S K)
    (hs : ∀ C : DS → Prop, C S → (evReg T fls l none b.sz nx0 nx1 l nat0 tm ow []).sat P C := by intro C hC; (refine sat_go ?_); refine sat_done ?_; exact hC)
    (hn : Nat.ble (nx0 + l.length) nx1 = true := by rfl) : Ev P b (.seq (.region id l.toArray false) y) ⟨tm, ow, nx0⟩ K :=
  ev_seq (ev_region hT fls nx1 hn (hs _ (exS_normal h)))
theorem ev_Q (fls : List Nat) {id : Nat} {l : List Oper} {tm : List (Nat × D)} {ow : List (Nat × DOwn)} {nx0 : Nat} (nx1 : Nat) {S : DS} {K : Exit → DS → Prop} (h : K .normal S)
    (hs : ∀ C : DS → Prop, C S → (evReg T fls l none b.sz nx0 nx1 l nat0 tm ow []).sat P C := by intro C hC; (refine sat_go ?_); refine sat_done ?_; exact hC)
    (hn : Nat.ble (nx0 + l.length) nx1 = true := by rfl) : Ev P b (.region id l.toArray false) ⟨tm, ow, nx0⟩ K :=
  ev_region hT fls nx1 hn (hs _ h)
end
section
variable {P : Program} {b : Ba}
theorem ev_if {c : Operand} {x y : Code} {S : DS} {K : Exit → DS → Prop} {t : Bool} {p q : Prop} (h1 : p → Ev P b x S K) (h2 : q → Ev P b y S K) (hc : opd S.tm c = some (.v (.bool t)) := by rfl)
    (e1 : (t = true) = p := by conv => { lhs; try simp only [decide_eq_true_eq, decide_eq_false_iff_not, Bool.not_eq_true', Bool.not_eq_false', Bool.and_eq_true, Bool.or_eq_true, Bool.or_eq_false_iff, gt_iff_lt, Int.not_lt, Bool.not_true, Bool.not_false, Int.ofNat_lt, Int.ofNat_le] })
    (e2 : (t = false) = q := by conv => { lhs; try simp only [decide_eq_true_eq, decide_eq_false_iff_not, Bool.not_eq_true', Bool.not_eq_false', Bool.and_eq_true, Bool.or_eq_true, Bool.or_eq_false_iff, gt_iff_lt, Int.not_lt, Bool.not_true, Bool.not_false, Int.ofNat_lt, Int.ofNat_le] }) : Ev P b (.cond c x y) S K :=
  ev_cond hc (fun h => h1 (e1 ▸ h)) (fun h => h2 (e2 ▸ h))
end
theorem le_t {A B : List (Nat × D)} (h : leT A B := by first | exact trivial | (repeat (first | exact trivial | exact Sub.refl _ | refine ⟨?_, ?_⟩ | exact Sub.int (by first | rfl | omega | (push_cast; omega)) | exact Sub.nilSl | exact Sub.own rfl | exact Sub.slrSl rfl | exact Sub.ownSl (List.map_append).symm | exact Sub.ownSl rfl))) : leT A B := h
theorem le_o {A B : List (Nat × DOwn)} (h : leO A B := by repeat (first | exact trivial | exact SubO.same rfl | refine ⟨?_, ?_⟩)) : leO A B := h
end Go.Proofs.YtnkjenaanjnihaaGreatDoor


/- Walks by the evaluator: lists searched and compared; the smallest functions. -/
namespace Go.Proofs.YtnkjenaanjnihaaGreatDoor
open Go.RowKit
variable {md me : Bool}
theorem getD_q {α : Type} {l : List α} {k : Nat} (h : k < l.length) (e : α) : l[k]? = some (l.getD (k : Int).toNat e) := by simp [List.getD_eq_getElem?_getD, h]
theorem getD_l {α : Type} {l : List α} {k : Nat} (h : k < l.length) (e : α) : l.getD (k : Int).toNat e = l[k] := by simp [List.getD_eq_getElem?_getD, h]
def ixI {α : Type} [DecidableEq α] : List α → α → Int
  | [], _ => -1
  | x :: l, n => if n = x then 0 else if ixI l n < 0 then -1 else ixI l n + 1
theorem ixI_none {α : Type} [DecidableEq α] : ∀ {l : List α} {n : α}, n ∉ l → ixI l n = -1
  | [], _, _ => rfl
  | x :: l, n, h => by
    rw [ixI, if_neg (fun e => h (by simp [e])), ixI_none (fun e => h (by simp [e]))]; rfl
theorem ixI_at {α : Type} [DecidableEq α] : ∀ {l : List α} {n : α} {k : Nat}, (∀ j, j < k → l[j]? ≠ some n) → l[k]? = some n → ixI l n = k
  | [], _, _, _, h => by simp at h
  | x :: l, n, 0, _, h => by simp at h; subst h; simp [ixI]
  | x :: l, n, k + 1, hn, h => by
    have h0 : n ≠ x := fun e => hn 0 (by omega) (by simp [e])
    have := ixI_at (l := l) (n := n) (k := k) (fun j hj => by have := hn (j + 1) (by omega); simpa using this) (by simpa using h)
    rw [ixI, if_neg h0, this, if_neg (by omega)]
    simp
def hasB {α : Type} [DecidableEq α] (l : List α) (n : α) : Bool := l.any fun x => decide (n = x)
structure Nf {α : Type} (l : List α) (n : α) where
  k : Nat
  le : k ≤ l.length
  no : ∀ j, j < k → l[j]? ≠ some n
def Nf.next {α : Type} {l : List α} {n e : α} (x : Nf l n) (h1 : x.k < l.length) (h2 : ¬ n = l.getD (x.k : Int).toNat e) : Nf l n := ⟨x.k + 1, by omega, fun j hj => by
  rcases Nat.lt_succ_iff_lt_or_eq.1 hj with h | rfl
  · exact x.no j h
  · intro e'; rw [getD_q h1 e] at e'; simp only [Option.some.injEq] at e'; exact h2 e'.symm⟩
theorem Nf.found {α : Type} [DecidableEq α] {l : List α} {n e : α} (x : Nf l n) (h1 : x.k < l.length) (h2 : n = l.getD (x.k : Int).toNat e) : ixI l n = (x.k : Int) := ixI_at x.no (by rw [getD_q h1 e, ← h2])
theorem Nf.none {α : Type} [DecidableEq α] {l : List α} {n : α} (x : Nf l n) (h1 : ¬ x.k < l.length) : ixI l n = -1 := ixI_none fun h => by
  obtain ⟨j, hj, e⟩ := List.mem_iff_getElem.1 h
  exact x.no j (by omega) (by rw [List.getElem?_eq_getElem hj, e])
structure Eq2 {α : Type} (l m : List α) where
  k : Nat
  le : k ≤ l.length
  eq : l.take k = m.take k
def Eq2.next {α : Type} {l m : List α} {e : α} (x : Eq2 l m) (hl : l.length = m.length) (h1 : x.k < l.length) (h2 : l.getD (x.k : Int).toNat e = m.getD (x.k : Int).toNat e) : Eq2 l m := ⟨x.k + 1, by omega, by
  have h1' : x.k < m.length := by omega
  rw [List.take_succ_eq_append_getElem h1, List.take_succ_eq_append_getElem h1', x.eq]
  rw [getD_l h1, getD_l h1'] at h2
  rw [h2]⟩
theorem Eq2.all {α : Type} {l m : List α} (x : Eq2 l m) (hl : l.length = m.length) (h1 : ¬ x.k < l.length) : l = m := by
  have := x.eq
  rw [List.take_of_length_le (by omega), List.take_of_length_le (by omega)] at this
  exact this
theorem ne_at {α : Type} {l m : List α} {e : α} {k : Nat} (h2 : ¬ l.getD (k : Int).toNat e = m.getD (k : Int).toNat e) : l ≠ m := by rintro rfl; exact h2 rfl
theorem IndexS_ok (l : List ByteArray) (n : ByteArray) : Fn Tryz.prog 37 [ssD l, .v (.string n)] (.v (.int .i64 (ixI l n))) := by
  refine fn_ev tabT Tryz.func37 rfl rfl rfl rfl rfl rfl ?_
  intro w0 s0 mx
  refine ev_len 0 rfl fun hl0 => ?_
  refine ev_R tabT [] 100 ?_
  refine ev_seq (ev_R tabT [] 200 ?_)
  refine ev_block ?_
  refine ev_loopK (ι := Nf l n) [0, 1, 7] [] 250 (fun x => [(8, .v (.int .i64 x.k))]) (fun _ => []) (fun x => l.length - x.k) ⟨0, Nat.zero_le _, fun j hj => by omega⟩ ?_
  refine ⟨⟨le_t, le_o, rfl, rfl⟩, fun x => ?_⟩
  have hk := x.le
  refine ev_R tabT [] 300 ?_
  refine ev_seq (ev_if (fun c2 => ?_) (fun c2 => ?_))
  ·
    refine ev_skip (exS_normal (ev_seq (ev_block (ev_R tabT [] 400 ?_))))
    refine ev_R tabT [] 500 ?_
    refine ev_if (fun c4 => ?_) (fun c4 => ?_)
    ·
      refine ev_R tabT [] 600 ?_
      refine ev_ret (exBl_ret (exS_ret (exL_ret (exBl_ret (exS_ret ?_)))))
      exact FinV.ret rfl (SubP.int (x.found c2 c4).symm)
    ·
      refine ev_skip (exBl_normal (exS_normal (ev_Q tabT [] 700 ?_)))
      exact exL_normal (x.next c2 c4) ⟨le_t, le_o, rfl, rfl⟩ (by show l.length - (x.k + 1) < l.length - x.k; omega)
  ·
    refine ev_exit (exS_exit (exL_exit (exBl_same (exS_normal (ev_R tabT [] 800 ?_)))))
    refine ev_ret ?_
    exact FinV.ret rfl (SubP.int (x.none c2).symm)
theorem EqualU_ok (l m : List Nat) : Fn Tryz.prog 27 [usD l, usD m] (.v (.bool (decide (l = m)))) := by
  refine fn_ev tabT Tryz.func27 rfl rfl rfl rfl rfl rfl ?_
  intro w0 s0 mx
  refine ev_len 0 rfl fun hl0 => ?_
  refine ev_R tabT [] 100 ?_
  refine ev_seq (ev_R tabT [] 200 ?_)
  refine ev_cond rfl (fun c1 => ?_) (fun c1 => ?_)
  · simp at c1
    refine ev_R tabT [] 300 ?_
    refine ev_ret (exS_ret ?_)
    exact FinV.ret rfl (SubP.bool (by simp; rintro rfl; exact c1 rfl))
  · simp at c1
    have c1 := Int.ofNat_inj.1 c1
    refine ev_skip (exS_normal (ev_seq (ev_R tabT [] 400 ?_)))
    refine ev_block ?_
    refine ev_loopK (ι := Eq2 l m) [0, 1, 12] [] 450 (fun x => [(13, .v (.int .i64 x.k))]) (fun _ => []) (fun x => l.length - x.k) ⟨0, Nat.zero_le _, rfl⟩ ?_
    refine ⟨⟨le_t, le_o, rfl, rfl⟩, fun x => ?_⟩
    have hk := x.le
    refine ev_R tabT [] 500 ?_
    refine ev_seq (ev_if (fun c4 => ?_) (fun c4 => ?_))
    ·
      refine ev_skip (exS_normal (ev_seq (ev_block (ev_R tabT [] 600 ?_))))
      refine ev_seq (ev_drawn tabT [] [[], [], [0, 1], [0, 1, 2], [], [], [4, 5], [4, 5, 6], [0, 1, 2, 3, 4, 5, 6, 7]] 700 mixT (by kernel_rfl) rfl ?_)
      refine sat_go ?_
      refine sat_done (exS_normal (ev_cond rfl (fun c6 => ?_) (fun c6 => ?_)))
      · simp only [Bool.not_eq_true', decide_eq_false_iff_not] at c6
        refine ev_R tabT [] 800 ?_
        refine ev_ret (exBl_ret (exS_ret (exL_ret (exBl_ret (exS_ret ?_)))))
        exact FinV.ret rfl (SubP.bool (by simpa using ne_at (fun e => c6 (congrArg Int.ofNat e))))
      · simp only [Bool.not_eq_false', decide_eq_true_eq] at c6
        refine ev_skip (exBl_normal (exS_normal (ev_Q tabT [] 900 ?_)))
        exact exL_normal (x.next c1 c4 (Int.ofNat_inj.1 c6)) ⟨le_t, le_o, rfl, rfl⟩ (by show l.length - (x.k + 1) < l.length - x.k; omega)
    ·
      refine ev_exit (exS_exit (exL_exit (exBl_same (exS_normal (ev_R tabT [] 1000 ?_)))))
      refine ev_ret ?_
      exact FinV.ret rfl (SubP.bool (by simpa using x.all c1 c4))
def isObj (h : List Ob) (n : Int) : Bool := (decide (0 ≤ n) && decide (n < h.length)) && !decide ((h.getD n.toNat ob0).kind = 0)
theorem isObj_lt {h : List Ob} {n : Int} (hi : isObj h n = true) : 0 ≤ n ∧ n.toNat < h.length := by
  simp only [isObj, Bool.and_eq_true, decide_eq_true_eq] at hi
  omega
def objS (h : List Ob) (v : Vl) : Ob := if v.k = 6 ∧ isObj h v.r = true then h.getD v.r.toNat ob0 else ob0
end Go.Proofs.YtnkjenaanjnihaaGreatDoor


/- Walks by the evaluator: sameness of values and objects; what links asks. -/
namespace Go.Proofs.YtnkjenaanjnihaaGreatDoor
open Go.RowKit
variable {md me : Bool}
def smI (b1 : Bool) (l1 : List Nat) (b2 : Bool) (l2 : List Nat) : Bool := (b1 == b2) && decide (l1 = l2)
theorem smI_iff {b1 b2 : Bool} {l1 l2 : List Nat} : smI b1 l1 b2 l2 = true ↔ b1 = b2 ∧ l1 = l2 := by simp [smI]
def smV (a b : Vl) : Bool := (((decide (a.k = b.k) && decide (a.r = b.r)) && decide (a.s = b.s)) && smI a.nn a.nl b.nn b.nl) && smI a.dn a.dl b.dn b.dl
theorem smV_iff {a b : Vl} : smV a b = true ↔ a = b := by
  cases a; cases b
  simp only [smV, Bool.and_eq_true, decide_eq_true_eq, smI_iff, Vl.mk.injEq]
  constructor
  · rintro ⟨⟨⟨⟨rfl, rfl⟩, rfl⟩, rfl, rfl⟩, rfl, rfl⟩; simp
  · rintro ⟨rfl, rfl, rfl, rfl, rfl, rfl, rfl⟩; simp
instance : DecidableEq Vl := fun _ _ => decidable_of_iff _ smV_iff
theorem smV_eq (a b : Vl) : smV a b = decide (a = b) := by
  rw [Bool.eq_iff_iff, decide_eq_true_eq]; exact smV_iff
def smO (a b : Ob) : Bool := ((((((((((decide (a.kind = b.kind) && decide (a.name = b.name)) && decide (a.cls = b.cls)) && decide (a.code = b.code)) && decide (a.state = b.state)) && decide (a.refs = b.refs)) && decide (a.order = b.order)) && decide (a.names = b.names)) && decide (a.items = b.items)) && decide (a.keys = b.keys)))
theorem smO_iff {a b : Ob} : smO a b = true ↔ a = b := by
  cases a; cases b
  simp only [smO, Bool.and_eq_true, decide_eq_true_eq, Ob.mk.injEq]
  constructor
  · rintro ⟨⟨⟨⟨⟨⟨⟨⟨⟨rfl, rfl⟩, rfl⟩, rfl⟩, rfl⟩, rfl⟩, rfl⟩, rfl⟩, rfl⟩, rfl⟩; simp
  · rintro ⟨rfl, rfl, rfl, rfl, rfl, rfl, rfl, rfl, rfl, rfl⟩; simp
instance : DecidableEq Ob := fun _ _ => decidable_of_iff _ smO_iff
def inH (h : List Ob) (n : Int) : Prop := 0 ≤ n ∧ n.toNat < h.length
theorem isObj_in {h : List Ob} {n : Int} (hi : isObj h n = true) : inH h n := isObj_lt hi
abbrev obAt (h : List Ob) (n : Int) : Ob := h.getD n.toNat ob0
def callS (h : List Ob) (v : Vl) : Bool := decide (v.k = 7) || decide ((objS h v).kind = 7)
def excS (h : List Ob) (v : Vl) : Bool := (decide ((objS h v).kind = 10) && isObj h (objS h v).cls) && hasB (obAt h (objS h v).cls).order 28
def rngP (v : Vl) : Bool := decide (v.k = 2) && decide (v.nl.length ≤ 40)
def rngS (o : Ob) : Bool := o.items.all rngP && decide (0 < (o.items.getD 2 vl0).nl.length)
def greatS (k : Int) : Int := if k = 7 then 1 else if k = 17 then 3 else if k = 19 then 3 else if k = 16 ∨ k = 9 then 1099511627776 else if k = 18 then 5000 else 0
theorem SameInt_ok (b1 b2 : Bool) (l1 l2 : List Nat) : Fn Tryz.prog 15 [.agg [.v (.bool b1), usD l1], .agg [.v (.bool b2), usD l2]] (.v (.bool (smI b1 l1 b2 l2))) := by
  refine fn_ev tabT Tryz.func15 rfl rfl rfl rfl rfl rfl ?_
  intro w0 s0 mx
  refine ev_R tabT [] 100 ?_
  refine ev_seq (ev_region tabT [] 200 rfl ?_)
  refine sat_go ?_
  refine sat_fnG _ (fun hg10 => EqualU_ok _ _) rfl ?_
  refine sat_go ?_
  refine sat_done (exS_normal (ev_ret ?_))
  exact FinV.ret rfl (SubP.refl _)
theorem SameValue_ok (a b : Vl) : Fn Tryz.prog 13 [.agg (vlD a), .agg (vlD b)] (.v (.bool (decide (a = b)))) := by
  refine fn_ev tabT Tryz.func13 rfl rfl rfl rfl rfl rfl ?_
  intro w0 s0 mx
  refine ev_R tabT [] 100 ?_
  refine ev_seq (ev_region tabT [] 200 rfl ?_)
  refine sat_go ?_
  refine sat_fnG _ (fun hg24 => SameInt_ok _ _ _ _) rfl ?_
  refine sat_go ?_
  refine sat_fnG _ (fun hg31 => SameInt_ok _ _ _ _) rfl ?_
  refine sat_go ?_
  refine sat_done (exS_normal (ev_ret ?_))
  exact FinV.ret rfl (SubP.bool (smV_eq a b))
end Go.Proofs.YtnkjenaanjnihaaGreatDoor


/-
  DERIVED: THE SHELF's CONTRACTS AT THIS DUMP, IN PLAIN WORDS (tools/lay-plain.mjs out of 'YtnkjenaanjnihaaGreatDoorShelf.lean', which tools/lay-shelf.mjs wrote): THE SAME DECLARATIONS UNDER THE SAME NAMES: 'import', 'namespace', 'open', 'def', 'theorem' AND NOTHING ELSE: no command of the shelf's: FOR A HAND-IN. Each laying: the table of numbers ('.._ren') and one theorem, a field a fact of the dump's own or the kernel's comparison; each contract: ONE APPLICATION.
-/
namespace Go.Proofs
open Go.Shelf
def Tryz.laysValid_ren : Go.Shelf.Ren := ⟨fun | 196 => 18 | 259 => 32 | n => n, fun | 9 => 9 | 4 => 4 | 3 => 3 | 5 => 5 | 12 => 12 | 119 => 75 | 0 => 0 | 46 => 46 | 139 => 78 | 138 => 77 | 53 => 104 | n => n, fun | 3 => 0 | 4 => 1 | n => n⟩
theorem Tryz.laysValid : Go.Proofs.Lays.n196 Tryz.prog Tryz.laysValid_ren := {
  mixed := by kernel_rfl
  f196 := Tryz.func18.trans (congrArg some (by kernel_rfl))
  f259 := Tryz.func32.trans (congrArg some (by kernel_rfl))
  t0 := Tryz.underlying0
  a0 := Tryz.isAgg0
  z0 := Tryz.sizeOf0
  v0 := Tryz.zeroValue0
  t3 := Tryz.underlying3
  a3 := Tryz.isAgg3
  z3 := Tryz.sizeOf3
  v3 := Tryz.zeroValue3
  t4 := Tryz.underlying4
  a4 := Tryz.isAgg4
  z4 := Tryz.sizeOf4
  v4 := Tryz.zeroValue4
  t5 := Tryz.underlying5
  a5 := Tryz.isAgg5
  z5 := Tryz.sizeOf5
  v5 := Tryz.zeroValue5
  t9 := Tryz.underlying9
  a9 := Tryz.isAgg9
  z9 := Tryz.sizeOf9
  v9 := Tryz.zeroValue9
  t12 := Tryz.underlying12
  a12 := Tryz.isAgg12
  z12 := Tryz.sizeOf12
  v12 := Tryz.zeroValue12
  t46 := Tryz.underlying46
  a46 := Tryz.isAgg46
  z46 := Tryz.sizeOf46
  v46 := Tryz.zeroValue46
  t53 := Tryz.underlying104
  a53 := Tryz.isAgg104
  z53 := Tryz.sizeOf104
  v53 := Tryz.zeroValue104
  t119 := Tryz.underlying75
  a119 := Tryz.isAgg75
  z119 := Tryz.sizeOf75
  t138 := Tryz.underlying77
  a138 := Tryz.isAgg77
  z138 := Tryz.sizeOf77
  v138 := Tryz.zeroValue77
  t139 := Tryz.underlying78
  a139 := Tryz.isAgg78
  z139 := Tryz.sizeOf78
  v139 := Tryz.zeroValue78
  g3 := by kernel_rfl
  g4 := by kernel_rfl }
def Tryz.laysFields_ren : Go.Shelf.Ren := ⟨fun | 157 => 35 | 229 => 54 | 199 => 55 | 261 => 74 | 311 => 103 | 312 => 104 | n => n, fun | 9 => 9 | 31 => 79 | 3 => 3 | 5 => 5 | 4 => 4 | 119 => 75 | 0 => 0 | 40 => 107 | 152 => 123 | 21 => 21 | 154 => 125 | 51 => 48 | 141 => 127 | 196 => 160 | 193 => 157 | 198 => 163 | 49 => 161 | 194 => 158 | 201 => 166 | 226 => 196 | 46 => 46 | 227 => 197 | n => n, fun | 0 => 2 | 6 => 3 | n => n⟩
theorem Tryz.laysFields : Go.Proofs.Lays.n157 Tryz.prog Tryz.laysFields_ren := {
  mixed := by kernel_rfl
  f157 := Tryz.func35.trans (congrArg some (by kernel_rfl))
  f199 := Tryz.func55.trans (congrArg some (by kernel_rfl))
  f229 := Tryz.func54.trans (congrArg some (by kernel_rfl))
  f261 := Tryz.func74.trans (congrArg some (by kernel_rfl))
  f311 := Tryz.func103.trans (congrArg some (by kernel_rfl))
  f312 := Tryz.func104.trans (congrArg some (by kernel_rfl))
  t0 := Tryz.underlying0
  a0 := Tryz.isAgg0
  z0 := Tryz.sizeOf0
  v0 := Tryz.zeroValue0
  t3 := Tryz.underlying3
  a3 := Tryz.isAgg3
  z3 := Tryz.sizeOf3
  v3 := Tryz.zeroValue3
  t4 := Tryz.underlying4
  a4 := Tryz.isAgg4
  z4 := Tryz.sizeOf4
  v4 := Tryz.zeroValue4
  t5 := Tryz.underlying5
  a5 := Tryz.isAgg5
  z5 := Tryz.sizeOf5
  v5 := Tryz.zeroValue5
  t9 := Tryz.underlying9
  a9 := Tryz.isAgg9
  z9 := Tryz.sizeOf9
  v9 := Tryz.zeroValue9
  t21 := Tryz.underlying21
  a21 := Tryz.isAgg21
  z21 := Tryz.sizeOf21
  v21 := Tryz.zeroValue21
  t31 := Tryz.underlying79
  a31 := Tryz.isAgg79
  z31 := Tryz.sizeOf79
  v31 := Tryz.zeroValue79
  t40 := Tryz.underlying107
  a40 := Tryz.isAgg107
  z40 := Tryz.sizeOf107
  v40 := Tryz.zeroValue107
  t46 := Tryz.underlying46
  a46 := Tryz.isAgg46
  z46 := Tryz.sizeOf46
  v46 := Tryz.zeroValue46
  t49 := Tryz.underlying161
  a49 := Tryz.isAgg161
  z49 := Tryz.sizeOf161
  v49 := Tryz.zeroValue161
  t51 := Tryz.underlying48
  a51 := Tryz.isAgg48
  z51 := Tryz.sizeOf48
  v51 := Tryz.zeroValue48
  t119 := Tryz.underlying75
  a119 := Tryz.isAgg75
  z119 := Tryz.sizeOf75
  t141 := Tryz.underlying127
  a141 := Tryz.isAgg127
  z141 := Tryz.sizeOf127
  v141 := Tryz.zeroValue127
  t152 := Tryz.underlying123
  a152 := Tryz.isAgg123
  z152 := Tryz.sizeOf123
  v152 := Tryz.zeroValue123
  t154 := Tryz.underlying125
  a154 := Tryz.isAgg125
  z154 := Tryz.sizeOf125
  v154 := Tryz.zeroValue125
  t193 := Tryz.underlying157
  a193 := Tryz.isAgg157
  z193 := Tryz.sizeOf157
  v193 := Tryz.zeroValue157
  t194 := Tryz.underlying158
  a194 := Tryz.isAgg158
  z194 := Tryz.sizeOf158
  v194 := Tryz.zeroValue158
  t196 := Tryz.underlying160
  a196 := Tryz.isAgg160
  z196 := Tryz.sizeOf160
  v196 := Tryz.zeroValue160
  t198 := Tryz.underlying163
  a198 := Tryz.isAgg163
  z198 := Tryz.sizeOf163
  v198 := Tryz.zeroValue163
  t201 := Tryz.underlying166
  a201 := Tryz.isAgg166
  z201 := Tryz.sizeOf166
  v201 := Tryz.zeroValue166
  t226 := Tryz.underlying196
  a226 := Tryz.isAgg196
  z226 := Tryz.sizeOf196
  v226 := Tryz.zeroValue196
  t227 := Tryz.underlying197
  a227 := Tryz.isAgg197
  z227 := Tryz.sizeOf197
  v227 := Tryz.zeroValue197
  g0 := by kernel_rfl
  g6 := by kernel_rfl }
def Tryz.laysCut_ren : Go.Shelf.Ren := ⟨fun | 145 => 36 | 220 => 56 | 219 => 75 | 217 => 105 | 225 => 106 | 224 => 107 | 267 => 108 | 266 => 135 | 314 => 136 | n => n, fun | 9 => 9 | 4 => 4 | 59 => 82 | 3 => 3 | 5 => 5 | 46 => 46 | 146 => 198 | 51 => 48 | n => n, fun | 1 => 4 | n => n⟩
theorem Tryz.laysCut : Go.Proofs.Lays.n145 Tryz.prog Tryz.laysCut_ren := {
  mixed := by kernel_rfl
  f145 := Tryz.func36.trans (congrArg some (by kernel_rfl))
  f217 := Tryz.func105.trans (congrArg some (by kernel_rfl))
  f219 := Tryz.func75.trans (congrArg some (by kernel_rfl))
  f220 := Tryz.func56.trans (congrArg some (by kernel_rfl))
  f224 := Tryz.func107.trans (congrArg some (by kernel_rfl))
  f225 := Tryz.func106.trans (congrArg some (by kernel_rfl))
  f266 := Tryz.func135.trans (congrArg some (by kernel_rfl))
  f267 := Tryz.func108.trans (congrArg some (by kernel_rfl))
  f314 := Tryz.func136.trans (congrArg some (by kernel_rfl))
  t3 := Tryz.underlying3
  a3 := Tryz.isAgg3
  z3 := Tryz.sizeOf3
  v3 := Tryz.zeroValue3
  t4 := Tryz.underlying4
  a4 := Tryz.isAgg4
  z4 := Tryz.sizeOf4
  v4 := Tryz.zeroValue4
  t5 := Tryz.underlying5
  a5 := Tryz.isAgg5
  z5 := Tryz.sizeOf5
  v5 := Tryz.zeroValue5
  t9 := Tryz.underlying9
  a9 := Tryz.isAgg9
  z9 := Tryz.sizeOf9
  v9 := Tryz.zeroValue9
  t46 := Tryz.underlying46
  a46 := Tryz.isAgg46
  z46 := Tryz.sizeOf46
  v46 := Tryz.zeroValue46
  t51 := Tryz.underlying48
  a51 := Tryz.isAgg48
  z51 := Tryz.sizeOf48
  v51 := Tryz.zeroValue48
  t59 := Tryz.underlying82
  a59 := Tryz.isAgg82
  z59 := Tryz.sizeOf82
  v59 := Tryz.zeroValue82
  t146 := Tryz.underlying198
  a146 := Tryz.isAgg198
  z146 := Tryz.sizeOf198
  v146 := Tryz.zeroValue198
  g1 := by kernel_rfl }
end Go.Proofs


/- General facts about slices that read as lists, used by the walks of this claim. Nothing here speaks of the program. -/
namespace Go.Proofs.YtnkjenaanjnihaaGreatDoor
open Go.RowKit
def idxFrom (x : Int) : List Int → Nat → Int
  | [], _ => -1
  | y :: l, k => if x == y then k else idxFrom x l (k + 1)
def before (l : List Int) (a b : Int) : Bool := decide (0 ≤ idxFrom a l 0) && decide (idxFrom a l 0 < idxFrom b l 0)
end Go.Proofs.YtnkjenaanjnihaaGreatDoor


/- Numbers as the document writes them: digits to the base 65536, the lowest first. Plain law; nothing here speaks of the program. -/
namespace Go.Proofs.YtnkjenaanjnihaaGreatDoor
def V : List Nat → Nat
  | [] => 0
  | d :: l => d + 65536 * V l
def Dg (l : List Nat) : Prop := ∀ d ∈ l, d < 65536
def dig (n : Nat) : List Nat := if n = 0 then [] else (n % 65536) :: dig (n / 65536)
decreasing_by omega
theorem dig_zero : dig 0 = [] := by rw [dig]; simp
theorem dig_pos {n : Nat} (h : n ≠ 0) : dig n = (n % 65536) :: dig (n / 65536) := by rw [dig]; simp [h]
theorem V_nil : V [] = 0 := rfl
theorem V_cons (d : Nat) (l : List Nat) : V (d :: l) = d + 65536 * V l := rfl
theorem V_append (a b : List Nat) : V (a ++ b) = V a + 65536 ^ a.length * V b := by
  induction a with
  | nil => simp [V_nil]
  | cons d a ih => rw [List.cons_append, V_cons, ih, V_cons, List.length_cons, Nat.pow_succ, Nat.mul_add]; rw [Nat.add_assoc]; congr 2; rw [← Nat.mul_assoc]; congr 1; exact Nat.mul_comm _ _
theorem V_snoc (a : List Nat) (d : Nat) : V (a ++ [d]) = V a + 65536 ^ a.length * d := by rw [V_append, V_cons, V_nil]; simp
theorem Dg.nil : Dg [] := fun _ h => by cases h
theorem Dg.snoc {a : List Nat} (h : Dg a) {d : Nat} (h1 : d < 65536) : Dg (a ++ [d]) := fun x hx => by
  rcases List.mem_append.1 hx with hx | hx
  · exact h x hx
  · rw [List.mem_singleton.1 hx]; exact h1
theorem Dg.take {a : List Nat} (h : Dg a) (n : Nat) : Dg (a.take n) := fun x hx => h x (List.mem_of_mem_take hx)
theorem Dg.at {a : List Nat} (h : Dg a) {i : Nat} (hi : i < a.length) : a[i] < 65536 := h _ (List.getElem_mem hi)
theorem V_lt {l : List Nat} (h : Dg l) : V l < 65536 ^ l.length := by
  induction l with
  | nil => simp [V_nil]
  | cons d l ih =>
    have h1 := h d (List.mem_cons_self ..)
    have h2 := ih (fun x hx => h x (List.mem_cons_of_mem _ hx))
    rw [V_cons, List.length_cons, Nat.pow_succ]
    omega
theorem V_take_succ {l : List Nat} {m : Nat} (h : m < l.length) : V (l.take (m + 1)) = V (l.take m) + 65536 ^ m * l[m] := by
  rw [List.take_succ_eq_append_getElem h, V_snoc, List.length_take, Nat.min_eq_left (Nat.le_of_lt h)]
theorem V_take_drop (l : List Nat) (m : Nat) (h : m ≤ l.length) : V l = V (l.take m) + 65536 ^ m * V (l.drop m) := by
  have e := V_append (l.take m) (l.drop m)
  rw [List.take_append_drop, List.length_take, Nat.min_eq_left h] at e
  exact e
theorem dig_Dg (n : Nat) : Dg (dig n) := by
  induction n using Nat.strongRecOn with
  | _ n ih =>
    by_cases h : n = 0
    · subst h; rw [dig_zero]; exact Dg.nil
    · rw [dig_pos h]
      intro x hx
      rcases List.mem_cons.1 hx with rfl | hx
      · omega
      · exact ih (n / 65536) (by omega) x hx
theorem V_dig (n : Nat) : V (dig n) = n := by
  induction n using Nat.strongRecOn with
  | _ n ih =>
    by_cases h : n = 0
    · subst h; rw [dig_zero]; rfl
    · rw [dig_pos h, V_cons, ih (n / 65536) (by omega)]; omega
def NoLead (l : List Nat) : Prop := ∀ h : l ≠ [], l.getLast h ≠ 0
theorem dig_V {l : List Nat} (h : Dg l) (hn : NoLead l) : dig (V l) = l := by
  induction l with
  | nil => exact dig_zero
  | cons d l ih =>
    have h1 := h d (List.mem_cons_self ..)
    have hl : Dg l := fun x hx => h x (List.mem_cons_of_mem _ hx)
    have hnl : NoLead l := fun hne => by
      have := hn (by simp)
      rw [List.getLast_cons hne] at this
      exact this
    have h0 : V (d :: l) ≠ 0 := by
      rw [V_cons]
      intro e
      have hd : d = 0 := by omega
      have hv : V l = 0 := by omega
      cases l with
      | nil => exact hn (by simp) (by simpa using hd)
      | cons x l =>
        have := ih hl hnl
        rw [hv, dig_zero] at this
        cases this
    rw [dig_pos h0, V_cons]
    have e1 : (d + 65536 * V l) % 65536 = d := by omega
    have e2 : (d + 65536 * V l) / 65536 = V l := by omega
    rw [e1, e2, ih hl hnl]
theorem dig_length_le {n k : Nat} (h : n < 65536 ^ k) : (dig n).length ≤ k := by
  induction k generalizing n with
  | zero => have : n = 0 := by simpa using h
            subst this; rw [dig_zero]; simp
  | succ k ih =>
    by_cases h0 : n = 0
    · subst h0; rw [dig_zero]; simp
    · rw [dig_pos h0, List.length_cons]
      have := ih (n := n / 65536) (by rw [Nat.pow_succ] at h; omega)
      omega
theorem dig_lt (n : Nat) : n < 65536 ^ (dig n).length := by
  have := V_lt (dig_Dg n)
  rwa [V_dig] at this
theorem dig_ge {n : Nat} (h : n ≠ 0) : 65536 ^ ((dig n).length - 1) ≤ n := by
  rcases Nat.lt_or_ge n (65536 ^ ((dig n).length - 1)) with h1 | h1
  · have h2 := dig_length_le h1
    have : (dig n).length ≠ 0 := by rw [dig_pos h]; simp
    omega
  · exact h1
theorem dig_len_lt {x y : Nat} (h : (dig x).length < (dig y).length) : x < y := by
  have h0 : y ≠ 0 := by intro e; subst e; rw [dig_zero] at h; simp at h
  have h1 := dig_lt x
  have h2 := dig_ge h0
  exact Nat.lt_of_lt_of_le h1 (Nat.le_trans (Nat.pow_le_pow_right (by omega) (by omega)) h2)
theorem dig_len_mono {x y : Nat} (h : x ≤ y) : (dig x).length ≤ (dig y).length := by
  rcases Nat.lt_or_ge (dig y).length (dig x).length with h1 | h1
  · have := dig_len_lt h1; omega
  · exact h1
theorem getD_lt {l : List Nat} {i : Nat} (h : i < l.length) : l.getD i 0 = l[i] := by rw [List.getD_eq_getElem?_getD, List.getElem?_eq_getElem h]; rfl
theorem getD_ge {l : List Nat} {i : Nat} (h : l.length ≤ i) : l.getD i 0 = 0 := by rw [List.getD_eq_getElem?_getD, List.getElem?_eq_none h]; rfl
theorem V_take_succ' (l : List Nat) (i : Nat) : V (l.take (i + 1)) = V (l.take i) + 65536 ^ i * (l.getD i 0) := by
  by_cases hl : i < l.length
  · rw [V_take_succ hl, getD_lt hl]
  · rw [List.take_of_length_le (by omega), List.take_of_length_le (by omega), getD_ge (by omega)]; simp
theorem plus_step {la lb o : List Nat} {i c x : Nat} (h : V o + c * 65536 ^ i = V (la.take i) + V (lb.take i)) (ho : o.length = i)
    (hx : x = c + (la.getD i 0) + (lb.getD i 0)) :
    V (o ++ [(x % 65536)]) + x / 65536 * 65536 ^ (i + 1) = V (la.take (i + 1)) + V (lb.take (i + 1)) := by
  rw [V_snoc, ho, V_take_succ' la, V_take_succ' lb, Nat.pow_succ]
  generalize 65536 ^ i = B at *
  have e : x = 65536 * (x / 65536) + x % 65536 := (Nat.div_add_mod x 65536).symm
  have e2 : B * x = B * (65536 * (x / 65536)) + B * (x % 65536) := by rw [← Nat.mul_add, ← e]
  have e3 : B * x = B * c + B * (la.getD i 0) + B * (lb.getD i 0) := by rw [hx, Nat.mul_add, Nat.mul_add]
  have e4 : x / 65536 * (B * 65536) = B * (65536 * (x / 65536)) := by rw [Nat.mul_comm, Nat.mul_assoc]
  have e5 : c * B = B * c := Nat.mul_comm _ _
  omega
theorem minus_step {la lb o : List Nat} {i c x c' : Nat} (h : V o + V (lb.take i) = V (la.take i) + c * 65536 ^ i) (ho : o.length = i) (hi : i < la.length) (hx : x + (lb.getD i 0) + c = la[i] + 65536 * c') :
    V (o ++ [x]) + V (lb.take (i + 1)) = V (la.take (i + 1)) + c' * 65536 ^ (i + 1) := by
  rw [V_snoc, ho, V_take_succ' lb, V_take_succ hi, Nat.pow_succ]
  generalize 65536 ^ i = B at *
  have e1 : B * x + B * (lb.getD i 0) + B * c = B * la[i] + B * (65536 * c') := by rw [← Nat.mul_add, ← Nat.mul_add, ← Nat.mul_add, hx]
  have e2 : c' * (B * 65536) = B * (65536 * c') := by rw [Nat.mul_comm, Nat.mul_assoc]
  have e3 : c * B = B * c := Nat.mul_comm _ _
  omega
def cmpN (x y : Nat) : Int := if x < y then -1 else if y < x then 1 else 0
theorem V_split {l : List Nat} {i : Nat} (h : i < l.length) : V l = V (l.take i) + 65536 ^ i * (l[i] + 65536 * V (l.drop (i + 1))) := by
  rw [V_take_drop l i (Nat.le_of_lt h), List.drop_eq_getElem_cons h, V_cons]
theorem lt_at {la lb : List Nat} {i : Nat} (ha : Dg la) (hl : la.length = lb.length) (hi : i < la.length) (hd : la.drop (i + 1) = lb.drop (i + 1)) (h : la[i] < lb[i]) : V la < V lb := by
  rw [V_split hi, V_split (l := lb) (i := i) (by omega), hd]
  have h1 := V_lt (ha.take i)
  rw [List.length_take, Nat.min_eq_left (Nat.le_of_lt hi)] at h1
  generalize 65536 * V (lb.drop (i + 1)) = D
  have h4 : 65536 ^ i * (la[i] + D) + 65536 ^ i ≤ 65536 ^ i * (lb[i] + D) := by
    rw [← Nat.mul_succ]; exact Nat.mul_le_mul_left _ (by omega)
  omega
theorem double_step {la o : List Nat} {i c one x : Nat} (h : V o + c * 65536 ^ i = 2 * V (la.take i) + one) (ho : o.length = i) (hi : i < la.length) (hx : x = 2 * la[i] + c) :
    V (o ++ [(x % 65536)]) + x / 65536 * 65536 ^ (i + 1) = 2 * V (la.take (i + 1)) + one := by
  rw [V_snoc, ho, V_take_succ hi, Nat.pow_succ]
  generalize 65536 ^ i = B at *
  have e : x = 65536 * (x / 65536) + x % 65536 := (Nat.div_add_mod x 65536).symm
  have e2 : B * x = B * (65536 * (x / 65536)) + B * (x % 65536) := by rw [← Nat.mul_add, ← e]
  have e3 : B * x = B * (2 * la[i]) + B * c := by rw [hx, Nat.mul_add]
  have e4 : x / 65536 * (B * 65536) = B * (65536 * (x / 65536)) := by rw [Nat.mul_comm, Nat.mul_assoc]
  have e5 : c * B = B * c := Nat.mul_comm _ _
  have e6 : B * (2 * la[i]) = 2 * (B * la[i]) := by rw [Nat.mul_left_comm]
  omega
end Go.Proofs.YtnkjenaanjnihaaGreatDoor


/- Numbers as the document writes them: steps of products, of binary digits, of divisions and of the greatest common divisor. Plain law. -/
namespace Go.Proofs.YtnkjenaanjnihaaGreatDoor
theorem gcd_even2 {a b : Nat} (ha : a % 2 = 0) (hb : b % 2 = 0) : Nat.gcd a b = 2 * Nat.gcd (a / 2) (b / 2) := by
  rw [← Nat.gcd_mul_left, show 2 * (a / 2) = a by omega, show 2 * (b / 2) = b by omega]
theorem gcd_even1 {a b : Nat} (ha : a % 2 = 0) (hb : b % 2 = 1) : Nat.gcd a b = Nat.gcd (a / 2) b := by
  have h : Nat.Coprime 2 b := by
    have h1 : Nat.gcd 2 b ∣ 2 := Nat.gcd_dvd_left 2 b
    have h2 := Nat.gcd_dvd_right 2 b
    have h3 := Nat.le_of_dvd (by omega) h1
    have h0 : Nat.gcd 2 b ≠ 0 := fun e => by rw [e] at h1; simp at h1
    rcases (show Nat.gcd 2 b = 1 ∨ Nat.gcd 2 b = 2 by omega) with h4 | h4
    · exact h4
    · rw [h4] at h2
      omega
  have e : a = 2 * (a / 2) := by omega
  conv => lhs; rw [e]
  exact Nat.Coprime.gcd_mul_left_cancel _ h
theorem gcd_less {a b : Nat} (h : b ≤ a) : Nat.gcd a b = Nat.gcd (a - b) b := by
  conv => lhs; rw [show a = (a - b) + b by omega]
  exact Nat.gcd_add_self_left ..
theorem plus_in {la lb o : List Nat} {k c : Nat} (ha : Dg la) (hb : Dg lb) (h : V o + c * 65536 ^ k = V (la.take k) + V (lb.take k)) (hc : 0 < c) : k ≤ la.length + lb.length := by
  rcases Nat.lt_or_ge (la.length + lb.length) k with h1 | h1
  · rw [List.take_of_length_le (by omega), List.take_of_length_le (by omega)] at h
    have h2 := V_lt ha
    have h3 := V_lt hb
    have h4 : 65536 ^ la.length ≤ 65536 ^ (la.length + lb.length) := Nat.pow_le_pow_right (by omega) (by omega)
    have h5 : 65536 ^ lb.length ≤ 65536 ^ (la.length + lb.length) := Nat.pow_le_pow_right (by omega) (by omega)
    have h6 : 65536 ^ (la.length + lb.length + 1) ≤ 65536 ^ k := Nat.pow_le_pow_right (by omega) (by omega)
    have h7 : 65536 ^ k ≤ c * 65536 ^ k := Nat.le_mul_of_pos_left _ hc
    rw [Nat.pow_succ] at h6
    omega
  · exact h1
theorem plus_done {la lb o : List Nat} {k : Nat} (h : V o + 0 * 65536 ^ k = V (la.take k) + V (lb.take k)) (h1 : la.length ≤ k) (h2 : lb.length ≤ k) : V o = V la + V lb := by
  rw [List.take_of_length_le h1, List.take_of_length_le h2] at h; omega
theorem minus_done {la lb o : List Nat} {c : Nat} (ho : Dg o) (hl : o.length = la.length) (h : V o + V (lb.take la.length) = V (la.take la.length) + c * 65536 ^ la.length) (hle : V lb ≤ V la) (hbl : lb.length ≤ la.length) : V o = V la - V lb := by
  rw [List.take_of_length_le hbl, List.take_of_length_le (Nat.le_refl _)] at h
  have h1 := V_lt ho
  rw [hl] at h1
  rcases Nat.eq_zero_or_pos c with rfl | hc
  · omega
  · have h7 : 65536 ^ la.length ≤ c * 65536 ^ la.length := Nat.le_mul_of_pos_left _ hc
    omega
end Go.Proofs.YtnkjenaanjnihaaGreatDoor
