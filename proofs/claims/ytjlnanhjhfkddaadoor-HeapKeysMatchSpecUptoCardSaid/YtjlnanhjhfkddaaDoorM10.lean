/- Part 10 of the proof. -/
import Derived.Test.YtjlnanhjhfkddaaDoorM9
import Derived.Test.YtjlnanhjhfkddaaDoorChecked
import Derived.WalkKit

/- The evaluator: functions and their results. Nothing here speaks of the program. -/
namespace Go.Proofs.YtjlnanhjhfkddaaDoor
open Go.RowKit

section
variable {P : Program} {K : DS → Prop}
theorem sat_done {S : DS} (h : K S) : (Out.done S).sat P K := h
theorem sat_same {a : Bool} {r : Out} (h : r.sat P K) : (Out.imp a a r).sat P K := ⟨id, h⟩
theorem sat_imp {a b : Bool} {r : Out} (h1 : a = true → b = true) (h : r.sat P K) : (Out.imp a b r).sat P K := ⟨h1, h⟩
theorem sat_need {p : Prop} {r : Out} (h1 : p) (h : r.sat P K) : (Out.need p r).sat P K := ⟨h1, h⟩
theorem sat_call (out : D) {f : FuncId} {args : List D} {r : D → Out} (hF : PFun P f (D.pvs args) out.pv) (hfl : out.flat = true) (h : (r out).sat P K) : (Out.call none f args r).sat P K := ⟨out, fun _ => hF, hfl, h⟩
theorem sat_callG (out : D) {e : Bool} {f : FuncId} {args : List D} {r : D → Out} (hF : e = true → PFun P f (D.pvs args) out.pv) (hfl : out.flat = true) (h : (r out).sat P K) : (Out.call (some e) f args r).sat P K :=
  ⟨out, fun h => hF (by cases e with | true => rfl | false => exact absurd rfl h), hfl, h⟩
theorem sat_callO (e sz : Nat) (rows : List (List D)) {f : FuncId} {args : List D} {r : TypeId → Nat → List (List D) → Out} (hF : OFun P f (D.pvs args) e sz (D.pvss rows)) (h : (r e sz rows).sat P K) : (Out.callO f args r).sat P K := ⟨e, sz, rows, hF, h⟩
theorem sat_pick (row : List D) {p : List D → Prop} {r : List D → Out} (hp : p row) (h : (r row).sat P K) : (Out.pick p r).sat P K := ⟨row, hp, h⟩
theorem sat_split {c : Bool} {a b : Out} (h1 : c = true → a.sat P K) (h2 : c = false → b.sat P K) : (Out.split c a b).sat P K := ⟨h1, h2⟩
end
/-- What a result of a function reads as. -/
def resD (T : List (Nat × TI)) (S : DS) : ResultVar → Option D
  | .tmp t => match fnd1 t S.tm with
    | some d => match d.pure with
      | true => some d
      | false => none
    | none => none
  | .cell t ty => match fnd1 t S.tm with
    | some (.bp k off) => match fnd1 k S.ow with
      | some (.box _ cs) => match cls T ty with
        | some (some n) => match takeS D.pure n (dropS off cs) with
          | some r => some (.agg r)
          | none => none
        | some none => match getS off cs with
          | some d => match d.pure with
            | true => some d
            | false => none
          | none => none
        | none => none
      | _ => none
    | _ => none
def finD (T : List (Nat × TI)) (S : DS) : List ResultVar → Option D
  | [r] => resD T S r
  | [r, q] => match resD T S r, resD T S q with
    | some a, some b => some (.tup [a, b])
    | _, _ => none
  | [r, q, x] => match resD T S r, resD T S q, resD T S x with
    | some a, some b, some c => some (.tup [a, b, c])
    | _, _, _ => none
  | _ => none
/-- The end of a function: its results read as out. -/
def FinV (T : List (Nat × TI)) (rs : List ResultVar) (out : D) (ex : Exit) (S : DS) : Prop :=
  (ex = .ret ∨ ex = .normal) ∧ ∃ d, finD T S rs = some d ∧ ∀ w s v, d.pv.p w s v → out.pv.p w s v

theorem FinV.ret {T : List (Nat × TI)} {rs : List ResultVar} {out d : D} {S : DS} (h : finD T S rs = some d) (hs : ∀ w s v, d.pv.p w s v → out.pv.p w s v) : FinV T rs out .ret S := ⟨.inl rfl, d, h, hs⟩

theorem FinV.normal {T : List (Nat × TI)} {rs : List ResultVar} {out d : D} {S : DS} (h : finD T S rs = some d) (hs : ∀ w s v, d.pv.p w s v → out.pv.p w s v) : FinV T rs out .normal S := ⟨.inr rfl, d, h, hs⟩
def argD : Nat → List D → List (Nat × D)
  | _, [] => []
  | i, d :: l => (i, d) :: argD (i + 1) l

theorem argD_fnd : ∀ {l : List D} {i t : Nat} {d : D}, fnd1 t (argD i l) = some d → ∃ j, t = i + j ∧ l[j]? = some d
  | [], i, t, d, h => by cases h
  | e :: l, i, t, d, h => by
    unfold argD at h
    rw [fnd1_cons] at h
    by_cases hi : i = t
    · simp only [hi, if_true] at h; cases h; exact ⟨0, by omega, rfl⟩
    · simp only [hi, if_false] at h
      obtain ⟨j, h1, h2⟩ := argD_fnd h
      exact ⟨j + 1, by omega, by simpa using h2⟩

theorem flats_mem : ∀ {l : List D} {d : D}, D.flats l = true → d ∈ l → d.flat = true
  | [], _, _, h => by cases h
  | e :: l, d, h, hd => by
    obtain ⟨h1, h2⟩ := flats_cons h
    rcases List.mem_cons.1 hd with rfl | hd
    · exact h1
    · exact flats_mem h2 hd
section
variable {P : Program} {T : List (Nat × TI)} (hT : tabOk P T = true)
include hT
theorem resD_ok {S : DS} {r : ResultVar} {d : D} (h : resD T S r = some d) : Res1 P S.ste r d.pv := by
  unfold resD at h
  split at h
  · rename_i t
    split at h
    · rename_i e he
      split at h
      · rename_i hp
        cases h
        exact ⟨d.tv, by show fnd t (tvs S.tm) = _; rw [fnd_tvs, he]; rfl, D.toPV hp⟩
      · cases h
    · cases h
  · rename_i t ty
    split at h
    · rename_i k off ht
      split at h
      · rename_i bt cs hk
        have h1 : fnd t S.ste.tm = some (.bp k off) := by show fnd t (tvs S.tm) = _; rw [fnd_tvs, ht]; rfl
        have h2 : fnd k S.ste.ow = some (.box bt (D.tvl cs)) := by show fnd k (ows S.ow) = _; rw [fnd_ows, hk]; rfl
        split at h
        · rename_i n hc
          split at h
          · rename_i r hr
            cases h
            obtain ⟨g1, g2, g3⟩ := takeS_some hr
            rw [dropS_eq] at g1 g3
            refine ⟨k, off, bt, _, h1, h2, .inr ⟨n, D.pvs r, (cls_row hT hc).2, ?_, ?_, rfl⟩⟩
            · rw [pvs_length, g3]; simp at g1 ⊢; omega
            · rw [tvl_map, ← List.map_drop, ← List.map_take, ← g3, pvs_map, List.map_map, List.map_map]
              exact List.map_congr_left fun d hd => D.toPV (g2 d hd)
          · cases h
        · rename_i hc
          split at h
          · rename_i e he
            split at h
            · rename_i hp
              cases h
              rw [getS_eq] at he
              exact ⟨k, off, bt, _, h1, h2, .inl ⟨cls_one hT hc, d.tv, by rw [tvl_map]; simp [he], D.toPV hp⟩⟩
            · cases h
          · cases h
        · cases h
      · cases h
    · cases h
theorem FinV.fin {rs : List ResultVar} {out : D} {ex : Exit} {S : DS} (h : FinV T rs out ex S) : ∃ d, Fin P rs.toArray d ex S.ste ∧ ∀ w s v, d.p w s v → out.pv.p w s v := by
  obtain ⟨he, d, hd, hs⟩ := h
  refine ⟨d.pv, ⟨he, ?_⟩, hs⟩
  match rs, hd with
  | [r], hd => exact resD_ok hT hd
  | [r, q], hd =>
    have hd : (match resD T S r, resD T S q with | some a, some b => some (D.tup [a, b]) | _, _ => none) = some d := hd
    cases ha : resD T S r with
    | none => rw [ha] at hd; cases hd
    | some a =>
      cases hb : resD T S q with
      | none => rw [ha, hb] at hd; cases hd
      | some b =>
        rw [ha, hb] at hd
        cases hd
        exact ⟨a.pv, b.pv, resD_ok hT ha, resD_ok hT hb, rfl⟩
  | [r, q, x], hd =>
    have hd : (match resD T S r, resD T S q, resD T S x with | some a, some b, some c => some (D.tup [a, b, c]) | _, _, _ => none) = some d := hd
    cases ha : resD T S r with
    | none => rw [ha] at hd; cases hd
    | some a =>
      cases hb : resD T S q with
      | none => rw [ha, hb] at hd; cases hd
      | some b =>
        cases hc : resD T S x with
        | none => rw [ha, hb, hc] at hd; cases hd
        | some c =>
          rw [ha, hb, hc] at hd
          cases hd
          exact ⟨a.pv, b.pv, c.pv, resD_ok hT ha, resD_ok hT hb, resD_ok hT hc, rfl⟩
  | [], hd => cases hd
  | _ :: _ :: _ :: _ :: _, hd => cases hd
/-- A function's contract, from what its code comes to. -/
theorem pfun_ev {f : FuncId} {fn : Func} {c : Code} {n : Nat} {args : List D} {rs : List ResultVar} {out : D} (hf : P.funcs[f]? = some fn) (hb : fn.body = some c) (hn : fn.ntmps = n) (hr : fn.results = rs.toArray) (hm : (fn.name == "runtime.NumGoroutine") = false) (hl : Nat.ble args.length n = true) (hfl : D.flats args = true)
    (h : ∀ b : Ba, b.sz = n → Ev P b c ⟨argD 0 args, [], 0⟩ (FinV T rs out)) : PFun P f (D.pvs args) out.pv := by
  have hl := Nat.le_of_ble_eq_true hl
  refine ⟨⟨fn, hf, hm, by rw [hb]; rfl⟩, fun w s vs hlt hgl hv => calls_of_wp hf hb ?_⟩
  have hlen := hv.length
  rw [pvs_length] at hlen
  have hr0 : Rel ⟨w, s, fun _ => False, n, ⟨fun _ => none, fun _ _ => none⟩⟩ w s ⟨fun _ => none, fun _ _ => none⟩ (DS.ste ⟨argD 0 args, [], 0⟩) { tmps := vs.toArray ++ Array.replicate (fn.ntmps - vs.toArray.size) undef, defers := [] } := by
    refine ⟨⟨Ex.refl w s, (fun B o h => .inl h), (fun B o h => .inl h), rfl, rfl, rfl, Nat.le_refl _, fun _ _ _ => rfl, hgl⟩, hlt, ?_, fun t d ht => ?_, (fun _ _ h => by cases h), (fun _ _ _ _ _ h => by cases h), fun _ _ => ⟨rfl, fun _ => rfl⟩, rfl, fun _ _ => ⟨(fun _ h => by cases h), fun _ _ h => by cases h⟩⟩
    · simp; omega
    · have ht' : fnd t (tvs (argD 0 args)) = some d := ht
      rw [fnd_tvs] at ht'
      cases hx : fnd1 t (argD 0 args) with
      | none => rw [hx] at ht'; cases ht'
      | some e =>
        rw [hx] at ht'; cases ht'
        obtain ⟨j, h1, h2⟩ := argD_fnd hx
        obtain ⟨v, h3, h4⟩ := hv.get (pvs_get h2)
        have hj := (List.getElem?_eq_some_iff.1 h3).1
        refine ⟨v, ?_, D.ofPV (flats_mem hfl (List.mem_of_getElem? h2)) h4⟩
        have ht' : t = j := by omega
        rw [ht', Array.getElem?_append_left (by simpa using hj)]
        simpa using h3
  refine h _ rfl w s _ _ _ hr0 fun ex w' s' g' a' S' h1 h2 => ?_
  obtain ⟨d, h3, h4⟩ := h2.fin hT
  rw [← hr] at h3
  exact Fin.post h1 h3 fun v hv => ⟨s', v, rfl, h4 _ _ _ hv, ⟨h1.kp.ex, h1.lt, h1.kp.os, h1.kp.tape, h1.kp.output, h1.kp.size, fun N hN => h1.kp.block N hN id, fun B o hs => (h1.kp.st B o hs).elim .inl fun x => x.elim .inr fun x => x.elim, fun B o hs => (h1.kp.sst B o hs).elim .inl fun x => x.elim .inr fun x => x.elim⟩⟩
end
end Go.Proofs.YtjlnanhjhfkddaaDoor

/- The evaluator's table of types for this program. -/
namespace Go.Proofs.YtjlnanhjhfkddaaDoor
open Go.RowKit

def TT : List (Nat × TI) := [(2, .int .i64),
  (3, .int .i64),
  (4, .bool),
  (5, .int .u8),
  (6, .int .u8),
  (7, .st 4 [.int .i64 0, .int .i64 0, .bool false, .int .u8 0] [(0, 1), (1, 1), (2, 1), (3, 1)]),
  (9, .str),
  (12, .int .u64),
  (13, .st 2 [.string ByteArray.empty, .int .u64 0] [(0, 1), (1, 1)]),
  (21, .int .i32),
  (22, .sl 44 10),
  (23, .st 1 [.slice none 0 0] [(0, 1)]),
  (24, .st 1 [.slice none 0 0] [(0, 1)]),
  (25, .sl 79 1),
  (26, .st 2 [.bool false, .slice none 0 0] [(0, 1), (1, 1)]),
  (27, .st 2 [.bool false, .slice none 0 0] [(0, 1), (1, 1)]),
  (28, .st 7 [.int .i64 0, .bool false, .slice none 0 0, .bool false, .slice none 0 0, .string ByteArray.empty, .int .i64 0] [(0, 1), (1, 2), (3, 2), (5, 1), (6, 1)]),
  (29, .st 7 [.int .i64 0, .bool false, .slice none 0 0, .bool false, .slice none 0 0, .string ByteArray.empty, .int .i64 0] [(0, 1), (1, 2), (3, 2), (5, 1), (6, 1)]),
  (31, .sl 29 7),
  (38, .st 2 [.int .i64 0, .int .i64 0] [(0, 1), (1, 1)]),
  (39, .st 2 [.int .i64 0, .int .i64 0] [(0, 1), (1, 1)]),
  (41, .sl 3 1),
  (42, .sl 9 1),
  (43, .st 10 [.int .i64 0, .string ByteArray.empty, .int .i64 0, .slice none 0 0, .slice none 0 0, .slice none 0 0, .slice none 0 0, .slice none 0 0, .int .i64 0, .int .i64 0] [(0, 1), (1, 1), (2, 1), (3, 1), (4, 1), (5, 1), (6, 1), (7, 1), (8, 1), (9, 1)]),
  (44, .st 10 [.int .i64 0, .string ByteArray.empty, .int .i64 0, .slice none 0 0, .slice none 0 0, .slice none 0 0, .slice none 0 0, .slice none 0 0, .int .i64 0, .int .i64 0] [(0, 1), (1, 1), (2, 1), (3, 1), (4, 1), (5, 1), (6, 1), (7, 1), (8, 1), (9, 1)]),
  (65, .sl 4 1),
  (74, .sl 41 1),
  (77, .int .u64),
  (79, .int .u32),
  (81, .st 4 [.bool false, .slice none 0 0, .bool false, .slice none 0 0] [(0, 2), (2, 2)]),
  (82, .st 4 [.bool false, .slice none 0 0, .bool false, .slice none 0 0] [(0, 2), (2, 2)]),
  (94, .sl 3 1),
  (99, .st 2 [.int .u8 0, .int .u8 0] [(0, 1), (1, 1)]),
  (100, .st 2 [.int .u8 0, .int .u8 0] [(0, 1), (1, 1)]),
  (103, .st 2 [.int .i64 0, .int .i64 0] [(0, 1), (1, 1)]),
  (113, .int .u64),
  (116, .st 3 [.slice none 0 0, .slice none 0 0, .int .i64 0] [(0, 1), (1, 1), (2, 1)]),
  (118, .int .u16),
  (119, .st 3 [.int .u16 0, .int .u16 0, .int .u16 0] [(0, 1), (1, 1), (2, 1)]),
  (122, .st 3 [.int .u32 0, .int .u32 0, .int .u32 0] [(0, 1), (1, 1), (2, 1)]),
  (2000007, .fl [(2, 0), (3, 1), (4, 2), (6, 3)]),
  (2000013, .fl [(9, 0), (12, 1)]),
  (2000018, .fl [(17, 0)]),
  (2000019, .fl [(17, 0)]),
  (2000023, .fl [(22, 0)]),
  (2000024, .fl [(22, 0)]),
  (2000026, .fl [(4, 0), (25, 1)]),
  (2000027, .fl [(4, 0), (25, 1)]),
  (2000028, .fl [(3, 0), (27, 1), (27, 3), (9, 5), (3, 6)]),
  (2000029, .fl [(3, 0), (27, 1), (27, 3), (9, 5), (3, 6)]),
  (2000038, .fl [(3, 0), (3, 1)]),
  (2000039, .fl [(3, 0), (3, 1)]),
  (2000043, .fl [(3, 0), (9, 1), (3, 2), (41, 3), (41, 4), (42, 5), (31, 6), (31, 7), (3, 8), (3, 9)]),
  (2000044, .fl [(3, 0), (9, 1), (3, 2), (41, 3), (41, 4), (42, 5), (31, 6), (31, 7), (3, 8), (3, 9)]),
  (2000081, .fl [(27, 0), (27, 2)]),
  (2000082, .fl [(27, 0), (27, 2)]),
  (2000099, .fl [(5, 0), (5, 1)]),
  (2000100, .fl [(5, 0), (5, 1)]),
  (2000103, .fl [(3, 0), (3, 1)]),
  (2000116, .fl [(114, 0), (115, 1), (3, 2)]),
  (2000119, .fl [(118, 0), (118, 1), (118, 2)]),
  (2000122, .fl [(79, 0), (79, 1), (79, 2)]),
  (2000135, .fl [(17, 0), (17, 1), (17, 2), (9, 3)]),
  (2000147, .fl [(12, 0), (12, 1), (79, 2), (141, 3), (5, 4), (5, 5), (142, 6), (143, 7), (144, 8), (145, 9), (146, 10)]),
  (2000148, .fl [(12, 0), (12, 1), (79, 2), (141, 3), (5, 4), (5, 5), (142, 6), (143, 7), (144, 8), (145, 9), (146, 10)])]
theorem tabT : tabOk Tryd.prog TT = true := by kernel_rfl
theorem mixT : Tryd.prog.follows .mixedOrders = true := by kernel_rfl
end Go.Proofs.YtjlnanhjhfkddaaDoor

/- A value of the document as it stands. -/
namespace Go.Proofs.YtjlnanhjhfkddaaDoor

structure Vl where
  k : Int
  nn : Bool
  nl : List Nat
  dn : Bool
  dl : List Nat
  s : ByteArray
  r : Int
end Go.Proofs.YtjlnanhjhfkddaaDoor

/- The document's values, objects and heaps as data. -/
namespace Go.Proofs.YtjlnanhjhfkddaaDoor
open Go.RowKit

def iD (n : Int) : List D := [.v (.int .i64 n)]
def sD (s : ByteArray) : List D := [.v (.string s)]
def uD (n : Nat) : List D := [.v (.int .u32 n)]
def vlD (x : Vl) : List D := [.v (.int .i64 x.k), .v (.bool x.nn), .sl false 1 x.nl uD 0, .v (.bool x.dn), .sl false 1 x.dl uD 0, .v (.string x.s), .v (.int .i64 x.r)]
def vl0 : Vl := ⟨0, false, [], false, [], ByteArray.empty, 0⟩
/-- An object. -/
structure Ob where
  kind : Int
  name : ByteArray
  cls : Int
  refs : List Int
  order : List Int
  names : List ByteArray
  items : List Vl
  keys : List Vl
  code : Int
  state : Int
def ob0 : Ob := ⟨0, ByteArray.empty, 0, [], [], [], [], [], 0, 0⟩
def isD (l : List Int) : D := .sl false 1 l iD 0
def ssD (l : List ByteArray) : D := .sl false 1 l sD ByteArray.empty
def usD (l : List Nat) : D := .sl false 1 l uD 0
def vsD (l : List Vl) : D := .sl false 7 l vlD vl0
def obD (o : Ob) : List D := [.v (.int .i64 o.kind), .v (.string o.name), .v (.int .i64 o.cls), .sl false 1 o.refs iD 0, .sl false 1 o.order iD 0, .sl false 1 o.names sD ByteArray.empty, .sl false 7 o.items vlD vl0, .sl false 7 o.keys vlD vl0, .v (.int .i64 o.code), .v (.int .i64 o.state)]
def hpD (md : Bool) (h : List Ob) : D := .agg [.sl md 10 h obD ob0]
end Go.Proofs.YtjlnanhjhfkddaaDoor

/- The evaluator: functions that leave a row to their caller; a slice held against nil; results told in other words. Nothing here speaks of the program. -/
namespace Go.Proofs.YtjlnanhjhfkddaaDoor
open Go.RowKit

/-- What reads as d reads as d', without the call's own. -/
def SubP (d d' : D) : Prop := ∀ w s v, d.pv.p w s v → d'.pv.p w s v
theorem SubP.refl (d : D) : SubP d d := fun _ _ _ h => h
theorem SubP.of_eq {d d' : D} (h : d = d') : SubP d d' := by subst h; exact SubP.refl d
theorem SubP.v {x y : Value} (h : x = y) : SubP (.v x) (.v y) := by subst h; exact SubP.refl _
theorem SubP.int {k : IntKind} {n m : Int} (h : n = m) : SubP (.v (.int k n)) (.v (.int k m)) := by subst h; exact SubP.refl _
theorem SubP.bool {n m : Bool} (h : n = m) : SubP (.v (.bool n)) (.v (.bool m)) := by subst h; exact SubP.refl _
theorem SubP.str {n m : ByteArray} (h : n = m) : SubP (.v (.string n)) (.v (.string m)) := by subst h; exact SubP.refl _
theorem SubP.nilSl {α : Type} {sz : Nat} {f : α → List D} {e : α} {l : List α} (h : l = []) : SubP (.v (.slice none 0 0)) (.sl false sz l f e) := by
  subst h
  intro w s v hv
  have hv' : v = .slice none 0 0 := hv
  subst hv'
  exact PV.sl_nil
theorem SubP.slW {α : Type} {m : Bool} {sz : Nat} {l : List α} {f : α → List D} {e : α} : SubP (.sl false sz l f e) (.sl m sz l f e) := fun _ _ _ hv => PV.sl_weak hv
theorem SubP.slSl {α β : Type} {m : Bool} {sz : Nat} {l : List α} {f : α → List D} {e : α} {l' : List β} {f' : β → List D} {e' : β} (h : l.map f = l'.map f') : SubP (.sl m sz l f e) (.sl m sz l' f' e') := by
  intro w s v hv
  have hv' : (PV.sl m sz (l.map fun a => D.pvs (f a))).p w s v := hv
  rw [← map_pvss, h, map_pvss] at hv'
  exact hv'
theorem SubP.ownSl {α : Type} {k sz : Nat} {rows : List (List D)} {l : List α} {f : α → List D} {e : α} (h : rows = l.map f) : SubP (.own k sz rows) (.sl false sz l f e) := by
  subst h
  intro w s v hv
  have hv' : (PV.sl false sz (D.pvss (l.map f))).p w s v := by rw [D.pv] at hv; exact hv
  rw [map_pvss] at hv'
  exact hv'
theorem SubP.slrSl {α : Type} {m : Bool} {sz : Nat} {rows : List (List D)} {l : List α} {f : α → List D} {e : α} (h : rows = l.map f) : SubP (.slr m sz rows) (.sl m sz l f e) := by
  subst h
  intro w s v hv
  have hv' : (PV.sl m sz (D.pvss (l.map f))).p w s v := hv
  rw [map_pvss] at hv'
  exact hv'
def SubPs : List D → List D → Prop
  | [], [] => True
  | d :: l, d' :: l' => SubP d d' ∧ SubPs l l'
  | _, _ => False
theorem SubPs.refl : ∀ l, SubPs l l
  | [] => trivial
  | _ :: l => ⟨SubP.refl _, SubPs.refl l⟩
theorem SubPs.all {w : World} {s : Sb} : ∀ {l l' : List D} {vs : List Value}, SubPs l l' → AllV w s (D.pvs l) vs → AllV w s (D.pvs l') vs
  | [], [], vs, _, h => h
  | d :: l, d' :: l', [], _, hv => by rw [D.pvs] at hv; exact hv.elim
  | d :: l, d' :: l', v :: vs, h, hv => by
    rw [D.pvs] at hv ⊢
    exact ⟨h.1 _ _ _ hv.1, SubPs.all h.2 hv.2⟩
  | [], _ :: _, _, h, _ => h.elim
  | _ :: _, [], _, h, _ => h.elim
theorem SubP.agg {l l' : List D} (h : SubPs l l') : SubP (.agg l) (.agg l') := by
  intro w s v hv
  rw [D.pv] at hv ⊢
  obtain ⟨vs, h1, h2⟩ := hv
  exact ⟨vs, h1, h.all h2⟩
theorem SubP.tup {l l' : List D} (h : SubPs l l') : SubP (.tup l) (.tup l') := by
  intro w s v hv
  rw [D.pv] at hv ⊢
  obtain ⟨vs, h1, h2⟩ := hv
  exact ⟨vs, h1, h.all h2⟩
theorem Sub.ofP {d d' : D} (h : SubP d d') (hd : d.pure = true) (hd' : d'.flat = true) : Sub d d' := fun _ _ _ _ hv => D.ofPV hd' (h _ _ _ (D.reads hd hv))
theorem PFun.out {P : Program} {f : FuncId} {args : List PV} {d d' : D} (h : PFun P f args d.pv) (hs : SubP d d') : PFun P f args d'.pv :=
  ⟨h.bod, fun w s vs hl hg hv => (h.run w s vs hl hg hv).mono fun _ _ ⟨s', v, h1, h2, h3⟩ => ⟨s', v, h1, hs _ _ _ h2, h3⟩⟩
theorem PFun.args {P : Program} {f : FuncId} {args args' : List D} {out : PV} (h : PFun P f (D.pvs args) out) (hs : SubPs args' args) : PFun P f (D.pvs args') out :=
  ⟨h.bod, fun w s vs hl hg hv => h.run w s vs hl hg (hs.all hv)⟩
theorem OFun.args {P : Program} {f : FuncId} {args args' : List D} {e : TypeId} {sz : Nat} {rows : List (List PV)} (h : OFun P f (D.pvs args) e sz rows) (hs : SubPs args' args) : OFun P f (D.pvs args') e sz rows :=
  ⟨h.bod, fun w s vs hl hg hv => h.run w s vs hl hg (hs.all hv)⟩

/-- The end of a function that leaves a row of its own. -/
def FinO (rs : List ResultVar) (e : TypeId) (sz : Nat) (rows : List (List D)) (ex : Exit) (S : DS) : Prop :=
  (ex = .ret ∨ ex = .normal) ∧ ∃ t, rs = [.tmp t] ∧ ((∃ k rows', fnd1 t S.tm = some (.own k sz rows') ∧ fnd1 k S.ow = some (.row e sz rows'.length) ∧ rows' = rows) ∨ (fnd1 t S.tm = some (.v (.slice none 0 0)) ∧ rows = []))
theorem FinO.ret {t : Nat} {e : TypeId} {sz k n : Nat} {rows rows' : List (List D)} {S : DS} (h1 : fnd1 t S.tm = some (.own k sz rows')) (h2 : fnd1 k S.ow = some (.row e sz n)) (hn : n = rows'.length) (h3 : rows' = rows) : FinO [.tmp t] e sz rows .ret S :=
  ⟨.inl rfl, t, rfl, .inl ⟨k, rows', h1, by rw [h2, hn], h3⟩⟩
theorem FinO.nil {t : Nat} {e : TypeId} {sz : Nat} {rows : List (List D)} {S : DS} (h1 : fnd1 t S.tm = some (.v (.slice none 0 0))) (h3 : rows = []) : FinO [.tmp t] e sz rows .ret S :=
  ⟨.inl rfl, t, rfl, .inr ⟨h1, h3⟩⟩
section
variable {P : Program}
theorem ofun_ev {f : FuncId} {fn : Func} {c : Code} {n : Nat} {args : List D} {rs : List ResultVar} {e : TypeId} {sz : Nat} {rows : List (List D)} (hf : P.funcs[f]? = some fn) (hb : fn.body = some c) (hn : fn.ntmps = n) (hr : fn.results = rs.toArray) (hm : (fn.name == "runtime.NumGoroutine") = false) (hl : Nat.ble args.length n = true) (hfl : D.flats args = true)
    (h : ∀ b : Ba, b.sz = n → Ev P b c ⟨argD 0 args, [], 0⟩ (FinO rs e sz rows)) : OFun P f (D.pvs args) e sz (D.pvss rows) := by
  have hl := Nat.le_of_ble_eq_true hl
  refine ⟨⟨fn, hf, hm, by rw [hb]; rfl⟩, fun w s vs hlt hgl hv => calls_of_wp hf hb ?_⟩
  have hlen := hv.length
  rw [pvs_length] at hlen
  have hr0 : Rel ⟨w, s, fun _ => False, n, ⟨fun _ => none, fun _ _ => none⟩⟩ w s ⟨fun _ => none, fun _ _ => none⟩ (DS.ste ⟨argD 0 args, [], 0⟩) { tmps := vs.toArray ++ Array.replicate (fn.ntmps - vs.toArray.size) undef, defers := [] } := by
    refine ⟨⟨Ex.refl w s, (fun B o h => .inl h), (fun B o h => .inl h), rfl, rfl, rfl, Nat.le_refl _, fun _ _ _ => rfl, hgl⟩, hlt, ?_, fun t d ht => ?_, (fun _ _ h => by cases h), (fun _ _ _ _ _ h => by cases h), fun _ _ => ⟨rfl, fun _ => rfl⟩, rfl, fun _ _ => ⟨(fun _ h => by cases h), fun _ _ h => by cases h⟩⟩
    · simp; omega
    · have ht' : fnd t (tvs (argD 0 args)) = some d := ht
      rw [fnd_tvs] at ht'
      cases hx : fnd1 t (argD 0 args) with
      | none => rw [hx] at ht'; cases ht'
      | some e =>
        rw [hx] at ht'; cases ht'
        obtain ⟨j, h1, h2⟩ := argD_fnd hx
        obtain ⟨v, h3, h4⟩ := hv.get (pvs_get h2)
        have hj := (List.getElem?_eq_some_iff.1 h3).1
        refine ⟨v, ?_, D.ofPV (flats_mem hfl (List.mem_of_getElem? h2)) h4⟩
        have ht' : t = j := by omega
        rw [ht', Array.getElem?_append_left (by simpa using hj)]
        simpa using h3
  refine h _ rfl w s _ _ _ hr0 fun ex w' s' g' a' S' h1 h2 => ?_
  obtain ⟨he, t, rfl, h3⟩ := h2
  have hp : PStp w s w' s' := ⟨h1.kp.ex, h1.lt, h1.kp.os, h1.kp.tape, h1.kp.output, h1.kp.size, fun N hN => h1.kp.block N hN id, fun B o hs => (h1.kp.st B o hs).elim .inl fun x => x.elim .inr fun x => x.elim, fun B o hs => (h1.kp.sst B o hs).elim .inl fun x => x.elim .inr fun x => x.elim⟩
  have fin : ∀ v, a'.tmps[t]? = some v → ∀ R : Ending → World → Prop, R (.returned v) w' → bodyPost P fn R ex a' w' := by
    intro v hv R hR
    have h4 : Rel ⟨w, s, fun _ => False, n, ⟨fun _ => none, fun _ _ => none⟩⟩ w' s' g' ⟨[(t, .pv (PV.lit v))], [], S'.nx⟩ a' := ⟨h1.kp, h1.lt, h1.sz, fun t' d hd => by
      rw [fnd_cons] at hd
      by_cases e1 : t = t'
      · subst e1; simp at hd; subst hd; exact ⟨v, hv, rfl⟩
      · simp [e1, fnd] at hd, (fun _ _ h => by cases h), (fun _ _ _ _ _ h => by cases h), h1.fr, h1.df, h1.gb⟩
    refine Fin.post (out := PV.lit v) h4 ⟨he, ?_⟩ fun u hu => by
      have : u = v := hu
      rw [this]; exact hR
    rw [hr]
    exact ⟨_, by rw [fnd_cons]; simp; rfl, rfl⟩
  rcases h3 with ⟨k, rows', h4, h5, rfl⟩ | ⟨h4, rfl⟩
  · obtain ⟨v, h6, h7⟩ := h1.tm t (.own k sz (D.pvss rows')) (by show fnd t (tvs S'.tm) = _; rw [fnd_tvs, h4]; simp only [Option.map, D.tv])
    obtain ⟨h8, h9⟩ := h1.ow k (.row e sz rows'.length) (by show fnd k (ows S'.ow) = _; rw [fnd_ows, h5]; rfl)
    exact fin v h6 _ ⟨s', g', k, v, rfl, h7, by rw [pvss_length]; exact h8, fun N hN => by rw [pvss_length] at hN; exact (h9 N hN).elim id fun x => x.elim, hp⟩
  · obtain ⟨v, h6, h7⟩ := h1.tm t (.pv (PV.lit (.slice none 0 0))) (by show fnd t (tvs S'.tm) = _; rw [fnd_tvs, h4]; rfl)
    have h7' : v = .slice none 0 0 := h7
    subst h7'
    have hst := Stp.ghostRow (w := w') (s := s') (k := S'.nx) (sz := sz) (e := e) h1.lt (h1.fr S'.nx (Nat.le_refl _))
    refine fin _ h6 _ ⟨s', g'.setRow S'.nx 0 (.slice none 0 0), S'.nx, .slice none 0 0, rfl, ?_, hst.ok _ _ (by rw [fnd_cons]; simp; rfl), fun N hN => ?_, hp⟩
    · rw [TV.P]; exact ⟨PV.sl_nil, Gh.setRow_eq _ _ _ _⟩
    · have h0 : ([] : List (List D)).length = 0 := rfl
      rw [pvss_length, h0, blk_row (Gh.setRow_eq _ _ _ _)] at hN
      cases hN
end
section
variable {P : Program} {b : Ba} {ops : Array Oper}
theorem eqIn_nil (d : Nat) {t e : TypeId} (h : P.underlying t = some (.slice e)) (w : World) (a : Option Addr) (n c : Nat) : (Op.equalIn (d + 1) t (.slice a n c) (.slice none 0 0)).run P w = .ok a.isNone w := by
  cases a <;> simp [Op.equalIn, run_underlying h]
theorem run_nilEq {T T' e : TypeId} {t3 t4 n : Nat} {ty : TypeId} {pos : String} {aft : Array Edge} {rest : List Oper} {tm : List (Nat × TV)} {ow : List (Nat × Own)} {nx : Nat} {K : Ste → Prop} {d : TV} (hu : P.underlying T = some (.slice e)) (ht : fnd t3 tm = some d)
    (hd : ∀ w s g v, d.P w s g v → ∃ a c, v = .slice a n c ∧ (a = none → n = 0)) (h4 : t4 < b.sz) (h : ∀ c : Bool, (c = true → n = 0) → Run P b ops rest ⟨(t4, .pv (PV.lit (.bool c))) :: tm, ow, nx⟩ K) :
    Run P b ops (⟨some t4, .binOp .eql T (.tmp t3) (.const (.slice none 0 0)) T', ty, pos, aft, none⟩ :: rest) ⟨tm, ow, nx⟩ K := by
  intro w s g a Q hr hK
  obtain ⟨v, hv, hp⟩ := hr.tm t3 d ht
  obtain ⟨ad, c, rfl, hn⟩ := hd w s g v hp
  refine wpList_step fun K' hK' => ?_
  have hw : Region.wanted (⟨some t4, .binOp .eql T (.tmp t3) (.const (.slice none 0 0)) T', ty, pos, aft, none⟩ : Oper) (yielded ops a.tmps) = true := rfl
  rw [hw]
  simp only [if_true]
  unfold Oper.wp
  have hev : a.eval (.tmp t3) = .slice ad n c := by simp [Act.eval, hv]
  have hev0 : a.eval (.const (.slice none 0 0)) = .slice none 0 0 := rfl
  have he : (execOp a.eval ⟨some t4, .binOp .eql T (.tmp t3) (.const (.slice none 0 0)) T', ty, pos, aft, none⟩).run P w = .ok (.value (.bool ad.isNone)) w := by
    have heq' : (Op.equal T (.slice ad n c) (.slice none 0 0)).run P w = .ok ad.isNone w := eqIn_nil 9999 hu w ad n c
    simp [execOp, hev, hev0, eqGuard, binOp, heq']
  rw [he]
  refine hK' _ _ (h ad.isNone (fun e => hn (by cases ad with | none => rfl | some _ => cases e)) w s g _ Q ?_ hK)
  exact (hr.step (acc := []) (acc' := []) (dst := some t4) (out := .pv (PV.lit (.bool ad.isNone))) (v := .bool ad.isNone) (nx := nx) (Stp.refl w s g hr.lt) (fun k c h => by cases h) (fun k c h => by cases h) (Nat.le_refl _) (fun k c h => by cases h) (fun d hd => by cases hd; exact h4) rfl).congr (fun _ _ h => h) (fun _ _ h => h) (Nat.le_refl _)
/-- A slice held against nil. -/
theorem ev_nilRegion {α : Type} {id : Nat} {T T' e : TypeId} {t0 t3 t4 sz : Nat} {m : Bool} {ty1 ty2 : TypeId} {pos1 pos2 : String} {aft1 aft2 : Array Edge} {l : List α} {f : α → List D} {e0 : α} {tm : List (Nat × D)} {ow : List (Nat × DOwn)} {nx : Nat} {K : Exit → DS → Prop} (hu : P.underlying T = some (.slice e)) (h0 : fnd1 t0 tm = some (.sl m sz l f e0))
    (h3 : Nat.blt t3 b.sz = true) (h4 : Nat.blt t4 b.sz = true) (h : ∀ c : Bool, (c = true → l = []) → K .normal ⟨(t4, .v (.bool c)) :: (t3, .sl m sz l f e0) :: tm, ow, nx⟩) :
    Ev P b (.region id #[⟨some t3, .move (.tmp t0), ty1, pos1, aft1, none⟩, ⟨some t4, .binOp .eql T (.tmp t3) (.const (.slice none 0 0)) T', ty2, pos2, aft2, none⟩] false) ⟨tm, ow, nx⟩ K := by
  intro w s g a Q hr hK
  have h0' : fnd t0 (tvs tm) = some (D.sl m sz l f e0).tv := by rw [fnd_tvs, h0]; rfl
  have hR : Run P b #[⟨some t3, .move (.tmp t0), ty1, pos1, aft1, none⟩, ⟨some t4, .binOp .eql T (.tmp t3) (.const (.slice none 0 0)) T', ty2, pos2, aft2, none⟩] [⟨some t3, .move (.tmp t0), ty1, pos1, aft1, none⟩, ⟨some t4, .binOp .eql T (.tmp t3) (.const (.slice none 0 0)) T', ty2, pos2, aft2, none⟩] ⟨tvs tm, ows ow, nx⟩ (fun S' => ∃ S, S' = DS.ste S ∧ K .normal S) := by
    refine run_u (out := (D.sl m sz l f e0).tv) (u_move h0') rfl h3 ?_
    refine run_nilEq (d := (D.sl m sz l f e0).tv) (n := l.length) hu (by show fnd t3 ((t3, (D.sl m sz l f e0).tv) :: tvs tm) = _; rw [fnd_cons]; simp) (fun w s g v hv => ?_) (Nat.le_of_ble_eq_true h4) fun c hc => run_nil ⟨⟨(t4, .v (.bool c)) :: (t3, .sl m sz l f e0) :: tm, ow, nx⟩, rfl, h c fun e => List.eq_nil_of_length_eq_zero (hc e)⟩
    obtain ⟨a, cap, g1, g2, g3, g4, g5⟩ := hv
    refine ⟨a, cap, by simpa using g1, fun ha => ?_⟩
    cases l with
    | nil => rfl
    | cons x l =>
      obtain ⟨b', off, e1, _⟩ := g5 0 (D.pvs (f x)) rfl
      rw [ha] at e1; cases e1
  refine wp_region_lit (hR w s g a Q hr fun w' s' g' a' S' g1 g2 => ?_)
  obtain ⟨S, rfl, g3⟩ := g2
  exact hK .normal w' s' g' a' S g1 g3
end
end Go.Proofs.YtjlnanhjhfkddaaDoor

/- The evaluator: loops by what they turn, lengths, contracts of data. Nothing here speaks of the program. -/
namespace Go.Proofs.YtjlnanhjhfkddaaDoor
open Go.RowKit

/-- A contract of data. -/
def Fn (P : Program) (f : FuncId) (args : List D) (out : D) : Prop := PFun P f (D.pvs args) out.pv
theorem Fn.args {P : Program} {f : FuncId} {args args' : List D} {out : D} (h : Fn P f args out) (hs : SubPs args' args) : Fn P f args' out := PFun.args h hs
theorem Fn.out {P : Program} {f : FuncId} {args : List D} {d d' : D} (h : Fn P f args d) (hs : SubP d d') : Fn P f args d' := PFun.out h hs
def FnO (P : Program) (f : FuncId) (args : List D) (e : TypeId) (sz : Nat) (rows : List (List D)) : Prop := OFun P f (D.pvs args) e sz (D.pvss rows)
theorem FnO.args {P : Program} {f : FuncId} {args args' : List D} {e : TypeId} {sz : Nat} {rows : List (List D)} (h : FnO P f args e sz rows) (hs : SubPs args' args) : FnO P f args' e sz rows := OFun.args h hs
section
variable {P : Program} {K : DS → Prop}
theorem sat_fn (out : D) {f : FuncId} {args : List D} {r : D → Out} (hF : Fn P f args out) (hfl : out.flat = true) (h : (r out).sat P K) : (Out.call none f args r).sat P K := sat_call out hF hfl h
theorem sat_fnG (out : D) {e : Bool} {f : FuncId} {args : List D} {r : D → Out} (hF : e = true → Fn P f args out) (hfl : out.flat = true) (h : (r out).sat P K) : (Out.call (some e) f args r).sat P K := sat_callG out hF hfl h
theorem sat_fnO (e sz : Nat) (rows : List (List D)) {f : FuncId} {args : List D} {r : TypeId → Nat → List (List D) → Out} (hF : FnO P f args e sz rows) (h : (r e sz rows).sat P K) : (Out.callO f args r).sat P K := sat_callO e sz rows hF h
end
theorem fn_ev {P : Program} {T : List (Nat × TI)} (hT : tabOk P T = true) {f : FuncId} {fn : Func} {c : Code} {n : Nat} {args : List D} {rs : List ResultVar} {out : D} (hf : P.funcs[f]? = some fn) (hb : fn.body = some c) (hn : fn.ntmps = n) (hr : fn.results = rs.toArray) (hm : (fn.name == "runtime.NumGoroutine") = false) (hl : Nat.ble args.length n = true) (hfl : D.flats args = true)
    (h : ∀ (w0 : World) (s0 : Sb) (mx : (Nat → Prop) × Gh), Ev P ⟨w0, s0, mx.1, n, mx.2⟩ c ⟨argD 0 args, [], 0⟩ (FinV T rs out)) : Fn P f args out :=
  pfun_ev hT hf hb hn hr hm hl hfl fun b hb' => by obtain ⟨w0, s0, mx, sz, g0⟩ := b; cases hb'; exact h w0 s0 (mx, g0)
theorem fnO_ev {P : Program} {f : FuncId} {fn : Func} {c : Code} {n : Nat} {args : List D} {rs : List ResultVar} {e : TypeId} {sz : Nat} {rows : List (List D)} (hf : P.funcs[f]? = some fn) (hb : fn.body = some c) (hn : fn.ntmps = n) (hr : fn.results = rs.toArray) (hm : (fn.name == "runtime.NumGoroutine") = false) (hl : Nat.ble args.length n = true) (hfl : D.flats args = true)
    (h : ∀ (w0 : World) (s0 : Sb) (mx : (Nat → Prop) × Gh), Ev P ⟨w0, s0, mx.1, n, mx.2⟩ c ⟨argD 0 args, [], 0⟩ (FinO rs e sz rows)) : FnO P f args e sz rows :=
  ofun_ev hf hb hn hr hm hl hfl fun b hb' => by obtain ⟨w0, s0, mx, sz, g0⟩ := b; cases hb'; exact h w0 s0 (mx, g0)

def oneO : DOwn → Bool
  | .box _ cs => allOne cs
  | _ => true
theorem SubL.same : ∀ {l : List D}, allOne l = true → SubL l l
  | [], _ => trivial
  | d :: l, h => by
    unfold allOne at h
    cases hd : d.one with
    | false => rw [hd] at h; simp at h
    | true => rw [hd] at h; exact ⟨Sub.refl d, hd, SubL.same h⟩
theorem SubO.same {c : DOwn} (h : oneO c = true) : SubO c c := by
  cases c with
  | box ty cs => exact ⟨rfl, SubL.same h⟩
  | row ty sz n => exact ⟨rfl, rfl, rfl⟩
  | mrow ty sz m => exact ⟨rfl, rfl, rfl⟩
  | map es => exact (rfl : es = es)
/-- The data of these temporaries. -/
def keepK : List Nat → List (Nat × D) → (List (Nat × D) → Prop) → Prop
  | [], _, k => k []
  | t :: ks, tm, k => match fnd1 t tm with
    | some d => keepK ks tm fun r => k ((t, d) :: r)
    | none => False
def keepO : List Nat → List (Nat × DOwn) → (List (Nat × DOwn) → Prop) → Prop
  | [], _, k => k []
  | t :: ks, ow, k => match fnd1 t ow with
    | some c => keepO ks ow fun r => k ((t, c) :: r)
    | none => False
theorem keepK_get : ∀ {ks : List Nat} {tm : List (Nat × D)} {k : List (Nat × D) → Prop}, keepK ks tm k → ∃ r, k r
  | [], _, _, h => ⟨[], h⟩
  | t :: ks, tm, k, h => by
    unfold keepK at h
    split at h
    · obtain ⟨r, hr⟩ := keepK_get h
      exact ⟨_, hr⟩
    · exact h.elim
theorem keepO_get : ∀ {ks : List Nat} {ow : List (Nat × DOwn)} {k : List (Nat × DOwn) → Prop}, keepO ks ow k → ∃ r, k r
  | [], _, _, h => ⟨[], h⟩
  | t :: ks, tm, k, h => by
    unfold keepO at h
    split at h
    · obtain ⟨r, hr⟩ := keepO_get h
      exact ⟨_, hr⟩
    · exact h.elim
section
variable {P : Program} {b : Ba}
/-- A loop: the temporaries ks and the own things os stay; chg and ochg tell what turns. -/
theorem ev_loopK {ι : Type} (ks os : List Nat) (N : Nat) (chg : ι → List (Nat × D)) (ochg : ι → List (Nat × DOwn)) (μ : ι → Nat) (x0 : ι) {c : Code} {tm : List (Nat × D)} {ow : List (Nat × DOwn)} {nx : Nat} {K : Exit → DS → Prop}
    (h : keepK ks tm fun base => keepO os ow fun ob => LeD ⟨tm, ow, nx⟩ ⟨chg x0 ++ base, ochg x0 ++ ob, N⟩ ∧ ∀ x, Ev P b c ⟨chg x ++ base, ochg x ++ ob, N⟩ (exL (fun x => ⟨chg x ++ base, ochg x ++ ob, N⟩) μ x K)) : Ev P b (.loop c) ⟨tm, ow, nx⟩ K := by
  obtain ⟨base, h1⟩ := keepK_get h
  obtain ⟨ob, h2, h3⟩ := keepO_get h1
  exact ev_loop (fun x => ⟨chg x ++ base, ochg x ++ ob, N⟩) μ x0 h2 h3
/-- The state told in other words: the temporaries ks and the own things os as they are, others as chg and ochg say. -/
theorem ev_tell (ks os : List Nat) (N : Nat) (chg : List (Nat × D)) (ochg : List (Nat × DOwn)) {c : Code} {tm : List (Nat × D)} {ow : List (Nat × DOwn)} {nx : Nat} {K : Exit → DS → Prop}
    (h : keepK ks tm fun base => keepO os ow fun ob => LeD ⟨tm, ow, nx⟩ ⟨chg ++ base, ochg ++ ob, N⟩ ∧ Ev P b c ⟨chg ++ base, ochg ++ ob, N⟩ K) : Ev P b c ⟨tm, ow, nx⟩ K := by
  obtain ⟨base, h1⟩ := keepK_get h
  obtain ⟨ob, h2, h3⟩ := keepO_get h1
  exact ev_le _ h2 h3
/-- Only these go on. -/
theorem ev_keep (ks os : List Nat) (N : Nat) {c : Code} {tm : List (Nat × D)} {ow : List (Nat × DOwn)} {nx : Nat} {K : Exit → DS → Prop}
    (h : keepK ks tm fun base => keepO os ow fun ob => LeD ⟨tm, ow, nx⟩ ⟨base, ob, N⟩ ∧ Ev P b c ⟨base, ob, N⟩ K) : Ev P b c ⟨tm, ow, nx⟩ K := by
  obtain ⟨base, h1⟩ := keepK_get h
  obtain ⟨ob, h2, h3⟩ := keepO_get h1
  exact ev_le _ h2 h3
/-- A slice has no more elements than an int counts. -/
theorem ev_len {α : Type} (t : Nat) {m : Bool} {sz : Nat} {l : List α} {f : α → List D} {e : α} {c : Code} {S : DS} {K : Exit → DS → Prop} (h0 : fnd1 t S.tm = some (.sl m sz l f e)) (h : l.length ≤ 9223372036854775807 → Ev P b c S K) : Ev P b c S K := by
  intro w s g a Q hr hK
  obtain ⟨v, h1, h2⟩ := hr.tm t (D.sl m sz l f e).tv (by show fnd t (tvs S.tm) = _; rw [fnd_tvs, h0]; rfl)
  obtain ⟨a', cap, h3, h4, h5, _⟩ := h2
  rw [List.length_map] at h4
  exact h (by omega) w s g a Q hr hK
theorem ini {n : Int} (h1 : -9223372036854775808 ≤ n) (h2 : n ≤ 9223372036854775807) : InI n := ⟨h1, h2⟩
theorem sat_needA {P : Program} {K : DS → Prop} {p : Prop} {r : Out} (h : r.sat P K) (h1 : p := by first | exact trivial | omega | exact ini (by omega) (by omega) | (intro hh; simp at hh; exact ini (by omega) (by omega)) | (intro hh; simp at hh ⊢; omega) | (simp at *; omega) | (simp_all; done)) : (Out.need p r).sat P K := ⟨h1, h⟩
theorem sat_impA {P : Program} {K : DS → Prop} {a b : Bool} {r : Out} (h : r.sat P K) (h1 : a = true → b = true := by first | exact fun hh => hh | (intro hh; simp at hh ⊢; first | omega | exact hh | simp_all) | (simp_all; done)) : (Out.imp a b r).sat P K := ⟨h1, h⟩
theorem ev_lenStr (t : Nat) {p : ByteArray} {c : Code} {S : DS} {K : Exit → DS → Prop} (h : p.size ≤ 9223372036854775807 → Ev P b c S K) (hp : p.size ≤ 9223372036854775807) : Ev P b c S K := h hp
theorem ev_condT {c : Operand} {x y : Code} {S : DS} {K : Exit → DS → Prop} (hc : opd S.tm c = some (.v (.bool true))) (h1 : Ev P b x S K) : Ev P b (.cond c x y) S K := ev_cond hc (fun _ => h1) fun e => by cases e
theorem ev_condF {c : Operand} {x y : Code} {S : DS} {K : Exit → DS → Prop} (hc : opd S.tm c = some (.v (.bool false))) (h1 : Ev P b y S K) : Ev P b (.cond c x y) S K := ev_cond hc (fun e => by cases e) fun _ => h1
end
end Go.Proofs.YtjlnanhjhfkddaaDoor
