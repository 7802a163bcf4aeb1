/- Part 2 of the proof. -/
import Derived.Test.YtfkaepjlmgolhaaGreatDoorM1
import Derived.Maps.AppendAt

/- Abstract execution: a function's end, its contract; what one state says of another. Nothing here speaks of the program. -/
namespace Go.Proofs.YtfkaepjlmgolhaaGreatDoor
open Go.RowKit

section
variable {P : Program}
/-- What a result reads as. -/
def Res1 (P : Program) (S : Ste) : ResultVar → PV → Prop
  | .tmp t, d => ∃ x, fnd t S.tm = some x ∧ x.toPV = some d
  | .cell t ty, d => ∃ k off bt cs, fnd t S.tm = some (.bp k off) ∧ fnd k S.ow = some (.box bt cs) ∧ ((OneT P ty ∧ ∃ e, cs[off]? = some e ∧ e.toPV = some d) ∨ ∃ n ds, RowT P ty n ∧ ds.length = n ∧ ((cs.drop off).take n).map TV.toPV = ds.map some ∧ PV.agg ds = d)
def resRun (tmps : Array Value) : ResultVar → Sem Value
  | .tmp t => pure (tmps.getD t undef)
  | .cell a t => do loadVar t (← asAddr (tmps.getD a undef))
theorem Res1.run {b : Ba} {w : World} {s : Sb} {g : Gh} {S : Ste} {a : Act} (hr : Rel b w s g S a) {r : ResultVar} {d : PV} (h : Res1 P S r d) : ∃ v, (resRun a.tmps r).run P w = .ok v w ∧ d.p w s v := by
  cases r with
  | tmp t =>
    obtain ⟨x, h1, h2⟩ := h
    obtain ⟨v, h3, h4⟩ := hr.tm t x h1
    exact ⟨v, by simp [resRun, h3], TV.weak h2 h4⟩
  | cell t ty =>
    obtain ⟨k, off, bt, cs, h1, h2, h3⟩ := h
    obtain ⟨v, h4, N, h5, rfl⟩ := hr.tm t _ h1
    obtain ⟨M, vs, h6, h7, h8, _⟩ := (hr.ow k _ h2).1
    rw [h5] at h6; cases h6
    have e : ∀ u, (Instr.loadAt ty (.pointer (some ⟨N, off, none⟩))).run P w = .ok u w → (resRun a.tmps (.cell t ty)).run P w = .ok u w := by
      intro u hu
      rw [← hu]
      simp [resRun, h4, Instr.loadAt, Instr.sureAddr, asAddr]
    rcases h3 with ⟨hT, e1, h9, h10⟩ | ⟨n, ds, hT, hl, h9, rfl⟩
    · obtain ⟨u, h11, h12⟩ := h8.get h9
      exact ⟨u, e u (hT.load (by rw [cell_of_row w N off _ bt (0, 0) h7]; simpa using h11)), TV.weak h10 h12⟩
    · have h11 := AllT.weak h9 ((h8.drop off).take n)
      exact ⟨_, e _ (hT.load (by rw [h11.length, hl]) (box_range h7 off n)), _, rfl, h11⟩
theorem results_eq (fn : Func) (tmps : Array Value) : results fn tmps = (do let vs ← fn.results.mapM (resRun tmps); pure (if h : vs.size = 1 then vs[0] else .tuple vs)) := by
  have : resRun tmps = (fun | .tmp t => pure (tmps.getD t undef) | .cell a t => do loadVar t (← asAddr (tmps.getD a undef))) := by
    funext r; cases r <;> rfl
  rw [this]
  rfl
theorem results_one {fn : Func} {r : ResultVar} (h : fn.results = #[r]) {tmps : Array Value} {w : World} {v : Value} (h1 : (resRun tmps r).run P w = .ok v w) : (results fn tmps).run P w = .ok v w := by
  rw [results_eq, h]
  simp [h1]
theorem results_two {fn : Func} {r q : ResultVar} (h : fn.results = #[r, q]) {tmps : Array Value} {w : World} {v u : Value} (h1 : (resRun tmps r).run P w = .ok v w) (h2 : (resRun tmps q).run P w = .ok u w) : (results fn tmps).run P w = .ok (.tuple #[v, u]) w := by
  rw [results_eq, h]
  simp [h1, h2]
theorem results_three {fn : Func} {r q x : ResultVar} (h : fn.results = #[r, q, x]) {tmps : Array Value} {w : World} {v u y : Value} (h1 : (resRun tmps r).run P w = .ok v w) (h2 : (resRun tmps q).run P w = .ok u w) (h3 : (resRun tmps x).run P w = .ok y w) : (results fn tmps).run P w = .ok (.tuple #[v, u, y]) w := by
  rw [results_eq, h]
  simp [h1, h2, h3]
/-- The end of a function: its results read as out. -/
def Fin (P : Program) (rs : Array ResultVar) (out : PV) (ex : Exit) (S : Ste) : Prop :=
  (ex = .ret ∨ ex = .normal) ∧ match rs.toList with
    | [r] => Res1 P S r out
    | [r, q] => ∃ d e, Res1 P S r d ∧ Res1 P S q e ∧ PV.tup [d, e] = out
    | [r, q, x] => ∃ d e f, Res1 P S r d ∧ Res1 P S q e ∧ Res1 P S x f ∧ PV.tup [d, e, f] = out
    | _ => False
theorem Fin.post {b : Ba} {fn : Func} {out : PV} {R : Ending → World → Prop} {ex : Exit} {w : World} {s : Sb} {g : Gh} {S : Ste} {a : Act} (hr : Rel b w s g S a) (h : Fin P fn.results out ex S) (hR : ∀ v, out.p w s v → R (.returned v) w) : bodyPost P fn R ex a w := by
  obtain ⟨he, h⟩ := h
  have key : a.defers = [] ∧ ∃ v, (results fn a.tmps).run P w = .ok v w ∧ R (.returned v) w := by
    refine ⟨hr.df, ?_⟩
    have hrs : ∃ l, fn.results = List.toArray l := ⟨fn.results.toList, by simp⟩
    obtain ⟨l, hl⟩ := hrs
    rw [hl] at h
    match l, h with
    | [r], h =>
      obtain ⟨v, h1, h2⟩ := Res1.run hr h
      exact ⟨v, results_one hl h1, hR v h2⟩
    | [r, q], h =>
      obtain ⟨d, e, h1, h2, rfl⟩ := h
      obtain ⟨v, h3, h4⟩ := Res1.run hr h1
      obtain ⟨u, h5, h6⟩ := Res1.run hr h2
      exact ⟨_, results_two hl h3 h5, hR _ ⟨[v, u], rfl, h4, h6, trivial⟩⟩
    | [r, q, x], h =>
      obtain ⟨d, e, f, h1, h2, h3, rfl⟩ := h
      obtain ⟨v, h4, h5⟩ := Res1.run hr h1
      obtain ⟨u, h6, h7⟩ := Res1.run hr h2
      obtain ⟨y, h8, h9⟩ := Res1.run hr h3
      exact ⟨_, results_three hl h4 h6 h8, hR _ ⟨[v, u, y], rfl, h5, h7, h9, trivial⟩⟩
    | [], h => exact h.elim
    | _ :: _ :: _ :: _ :: _, h => exact h.elim
  rcases he with rfl | rfl <;> exact key
def argT : Nat → List PV → List (Nat × TV)
  | _, [] => []
  | i, d :: l => (i, .pv d) :: argT (i + 1) l
theorem argT_fnd : ∀ {l : List PV} {i t : Nat} {d : TV}, fnd t (argT i l) = some d → ∃ j e, t = i + j ∧ l[j]? = some e ∧ d = .pv e
  | [], i, t, d, h => by cases h
  | e :: l, i, t, d, h => by
    unfold argT at h
    rw [fnd_cons] at h
    by_cases hi : i = t
    · simp only [hi, if_true] at h; cases h; exact ⟨0, e, by omega, rfl, rfl⟩
    · simp only [hi, if_false] at h
      obtain ⟨j, f, h1, h2, h3⟩ := argT_fnd h
      exact ⟨j + 1, f, by omega, by simpa using h2, h3⟩
theorem PFun.of {f : FuncId} {fn : Func} {c : Code} {n : Nat} {args : List PV} {out : PV} (hf : P.funcs[f]? = some fn) (hb : fn.body = some c) (hn : fn.ntmps = n) (hm : (fn.name == "runtime.NumGoroutine") = false) (hl : args.length ≤ n)
    (h : ∀ w0 s0, Cod P ⟨w0, s0, fun _ => False, n⟩ c ⟨argT 0 args, [], 0⟩ (Fin P fn.results out)) : PFun P f args out := by
  refine ⟨⟨fn, hf, hm, by rw [hb]; rfl⟩, fun w s vs hlt hgl hv => calls_of_wp hf hb ?_⟩
  have hlen := hv.length
  have hr : Rel ⟨w, s, fun _ => False, n⟩ w s ⟨fun _ => none, fun _ _ => none⟩ ⟨argT 0 args, [], 0⟩ { tmps := vs.toArray ++ Array.replicate (fn.ntmps - vs.toArray.size) undef, defers := [] } := by
    refine ⟨⟨Ex.refl w s, fun B o h => .inl h, rfl, rfl, rfl, Nat.le_refl _, fun _ _ _ => rfl, hgl⟩, hlt, ?_, fun t d ht => ?_, (fun _ _ h => by cases h), (fun _ _ _ _ _ h => by cases h), fun _ _ => ⟨rfl, fun _ => rfl⟩, rfl⟩
    · simp; omega
    · obtain ⟨j, e, h1, h2, rfl⟩ := argT_fnd ht
      obtain ⟨v, h3, h4⟩ := hv.get h2
      have hj := (List.getElem?_eq_some_iff.1 h3).1
      refine ⟨v, ?_, h4⟩
      have ht' : t = j := by omega
      rw [ht', Array.getElem?_append_left (by simpa using hj)]
      simpa using h3
  refine h w s w s _ _ _ hr fun ex w' s' g' a' S' h1 h2 => ?_
  exact Fin.post h1 h2 fun v hv => ⟨s', v, rfl, hv, ⟨h1.kp.ex, h1.lt, h1.kp.os, h1.kp.tape, h1.kp.output, h1.kp.size, fun N hN => h1.kp.block N hN id, fun B o hs => (h1.kp.st B o hs).elim .inl fun x => x.elim .inr fun x => x.elim⟩⟩
/-- A contract read for what it says of a call. -/
theorem PFun.calls {f : FuncId} {args : List PV} {out : PV} (h : PFun P f args out) {w : World} {vs : List Value} (hgl : Glb w (fun B o => ∃ v, w.cell? ⟨B, o, none⟩ = some v)) (hv : AllV w (fun B o => ∃ v, w.cell? ⟨B, o, none⟩ = some v) args vs) :
    Calls P f vs.toArray w fun e w' => ∃ s' v, e = .returned v ∧ out.p w' s' v ∧ Below w.heap.size w w' :=
  (h.run w _ vs (fun B o ⟨v, hc⟩ => World.block_lt_of_cell? w _ hc) hgl hv).mono fun e w' ⟨s', v, h1, h2, h3⟩ => ⟨s', v, h1, h2, h3.below⟩

section
variable {b : Ba}
/-- Fewer temporaries, fewer things owned. -/
theorem Le.sub {tm tm' : List (Nat × TV)} {ow ow' : List (Nat × Own)} {nx nx' : Nat} (ht : ∀ t d, fnd t tm' = some d → fnd t tm = some d) (ho : ∀ k c, fnd k ow' = some c → fnd k ow = some c) (hn : nx ≤ nx') : Le b ⟨tm, ow, nx⟩ ⟨tm', ow', nx'⟩ :=
  fun _ s g _ h => ⟨s, g, h.congr ht ho hn⟩
mutual
def idB (n : Nat) : TV → Bool
  | .pv _ => true
  | .bp k _ => Nat.blt k n
  | .own k _ _ => Nat.blt k n
  | .gbp _ k _ => Nat.blt k n
  | .agg l => idBs n l
def idBs (n : Nat) : List TV → Bool
  | [] => true
  | d :: l => idB n d && idBs n l
end
def idO (n : Nat) : Own → Bool
  | .box _ cs => idBs n cs
  | .row _ _ _ => true
def cutG (g : Gh) (n : Nat) : Gh := ⟨fun k => if k < n then g.bx k else none, fun k m => if k < n then g.gn k m else none⟩
mutual
theorem TV.cut {w : World} {s : Sb} {g : Gh} {n : Nat} {d : TV} {v : Value} (hi : idB n d = true) (h : d.P w s g v) : d.P w s (cutG g n) v := by
  match d, hi, h with
  | .pv d, _, h => exact h
  | .bp k off, hi, h =>
    rw [TV.P] at h ⊢
    obtain ⟨N, h1, h2⟩ := h
    exact ⟨N, by simp [cutG, h1, show k < n from Nat.le_of_ble_eq_true hi], h2⟩
  | .own k sz rows, hi, h =>
    rw [TV.P] at h ⊢
    exact ⟨h.1, by simp [cutG, h.2, show k < n from Nat.le_of_ble_eq_true hi]⟩
  | .gbp c k off, hi, h =>
    rw [TV.P] at h ⊢
    exact ⟨fun e => by obtain ⟨N, h1, h2⟩ := h.1 e; exact ⟨N, by simp [cutG, h1, show k < n from Nat.le_of_ble_eq_true hi], h2⟩, h.2⟩
  | .agg l, hi, h =>
    rw [TV.P] at h ⊢
    rw [idB] at hi
    obtain ⟨vs, h1, h2⟩ := h
    exact ⟨vs, h1, AllT.cut hi h2⟩
theorem AllT.cut {w : World} {s : Sb} {g : Gh} {n : Nat} {l : List TV} {vs : List Value} (hi : idBs n l = true) (h : AllT w s g l vs) : AllT w s (cutG g n) l vs := by
  match l, vs, hi, h with
  | [], [], _, _ => rw [AllT]; trivial
  | d :: l, v :: vs, hi, h =>
    rw [idBs, Bool.and_eq_true] at hi
    rw [AllT] at h ⊢
    exact ⟨TV.cut hi.1 h.1, AllT.cut hi.2 h.2⟩
  | [], _ :: _, _, h => simp [AllT] at h
  | _ :: _, [], _, h => simp [AllT] at h
end
theorem blk_cut {g : Gh} {n k : Nat} (h : k < n) (c : Own) : blk (cutG g n) k c = blk g k c := by
  match c with
  | .box _ _ => simp [blk, cutG, h]
  | .row _ _ _ => simp [blk, cutG, h]
/-- The numbers from n on are free again. -/
theorem Rel.cut {w : World} {s : Sb} {g : Gh} {tm : List (Nat × TV)} {ow : List (Nat × Own)} {nx : Nat} {a : Act} (h : Rel b w s g ⟨tm, ow, nx⟩ a) (n : Nat) (ht : tm.all (fun x => idB n x.2) = true) (ho : ow.all (fun x => Nat.blt x.1 n && idO n x.2) = true) : Rel b w s (cutG g n) ⟨tm, ow, n⟩ a := by
  have hk : ∀ k c, fnd k ow = some c → k < n ∧ idO n c = true := fun k c hf => by
    have := List.all_eq_true.1 ho _ (fnd_mem hf)
    simp only [Bool.and_eq_true] at this
    exact ⟨Nat.le_of_ble_eq_true this.1, this.2⟩
  refine ⟨h.kp, h.lt, h.sz, fun t d hf => ?_, fun k c hf => ?_, fun k k' c c' N h1 h2 hne hb => ?_, fun k hk' => ?_, h.df⟩
  · obtain ⟨v, h1, h2⟩ := h.tm t d hf
    exact ⟨v, h1, TV.cut (List.all_eq_true.1 ht _ (fnd_mem hf)) h2⟩
  · obtain ⟨h1, h2⟩ := hk k c hf
    obtain ⟨h3, h4⟩ := h.ow k c hf
    refine ⟨?_, fun N hb => h4 N (by rw [blk_cut h1] at hb; exact hb)⟩
    match c, h2, h3 with
    | .box t cs, h2, ⟨N, vs, e1, e2, e3, e4, e5⟩ => exact ⟨N, vs, by simp [cutG, h1, e1], e2, AllT.cut h2 e3, e4, e5⟩
    | .row t sz len, _, ⟨e0, v, e1, e2⟩ => exact ⟨fun m hm => by simp [cutG, h1, e0 m hm], v, by simp [cutG, h1, e1], e2⟩
  · rw [blk_cut (hk k' c' h2).1]
    rw [blk_cut (hk k c h1).1] at hb
    exact h.sep k k' c c' N h1 h2 hne hb
  · have : ¬ k < n := Nat.not_lt.2 hk'
    simp [cutG, this]
theorem Le.cut {tm tm' : List (Nat × TV)} {ow ow' : List (Nat × Own)} {nx n : Nat} (ht : ∀ t d, fnd t tm' = some d → fnd t tm = some d) (ho : ∀ k c, fnd k ow' = some c → fnd k ow = some c) (h1 : tm'.all (fun x => idB n x.2) = true) (h2 : ow'.all (fun x => Nat.blt x.1 n && idO n x.2) = true) : Le b ⟨tm, ow, nx⟩ ⟨tm', ow', n⟩ :=
  fun _ s g _ h => ⟨s, cutG g n, (h.congr (nx' := nx) ht ho (Nat.le_refl _)).cut n h1 h2⟩
end
end
end Go.Proofs.YtfkaepjlmgolhaaGreatDoor

/- Abstract execution: regions that draw their order. Nothing here speaks of the program. -/
namespace Go.Proofs.YtfkaepjlmgolhaaGreatDoor
open Go.RowKit

/-- The relation, the state told by functions. -/
structure RelF (b : Ba) (w : World) (s : Sb) (g : Gh) (tmf : Nat → Option TV) (owf : Nat → Option Own) (fr : Nat → Prop) (a : Act) : Prop where
  kp : Kp b w s
  lt : ∀ B o, s B o → B < w.heap.size
  sz : a.tmps.size = b.sz
  tm : ∀ t d, tmf t = some d → ∃ v, a.tmps[t]? = some v ∧ d.P w s g v
  ow : ∀ k c, owf k = some c → Ok1 w s g k c ∧ ∀ N, blk g k c = some N → b.w0.heap.size ≤ N ∨ b.mx N
  sep : ∀ k k' c c' N, owf k = some c → owf k' = some c' → k ≠ k' → blk g k c = some N → blk g k' c' ≠ some N
  fr : ∀ k, fr k → g.bx k = none ∧ ∀ m, g.gn k m = none
  df : a.defers = []
theorem Rel.toF {b : Ba} {w : World} {s : Sb} {g : Gh} {S : Ste} {a : Act} (h : Rel b w s g S a) : RelF b w s g (fun t => fnd t S.tm) (fun k => fnd k S.ow) (fun k => S.nx ≤ k) a := ⟨h.kp, h.lt, h.sz, h.tm, h.ow, h.sep, h.fr, h.df⟩
theorem RelF.toRel {b : Ba} {w : World} {s : Sb} {g : Gh} {tmf : Nat → Option TV} {owf : Nat → Option Own} {fr : Nat → Prop} {S : Ste} {a : Act} (h : RelF b w s g tmf owf fr a) (h1 : ∀ t d, fnd t S.tm = some d → tmf t = some d) (h2 : ∀ k c, fnd k S.ow = some c → owf k = some c) (h3 : ∀ k, S.nx ≤ k → fr k) : Rel b w s g S a :=
  ⟨h.kp, h.lt, h.sz, fun t d ht => h.tm t d (h1 t d ht), fun k c hk => h.ow k c (h2 k c hk), fun k k' c c' N e1 e2 => h.sep k k' c c' N (h2 k c e1) (h2 k' c' e2), fun k hk => h.fr k (h3 k hk), h.df⟩
def updT (tmf : Nat → Option TV) (dst : Option Tmp) (out : TV) : Nat → Option TV := match dst with | some e => fun t => if e = t then some out else tmf t | none => tmf
def updO (owf : Nat → Option Own) (acc' : List (Nat × Own)) (k : Nat) : Option Own := match fnd k acc' with | some c => some c | none => owf k
theorem RelF.step {b : Ba} {w w' : World} {s s' : Sb} {g g' : Gh} {tmf : Nat → Option TV} {owf : Nat → Option Own} {fr : Nat → Prop} {a : Act} {acc acc' : List (Nat × Own)} {dst : Option Tmp} {out : TV} {v : Value} {fr' : Nat → Prop}
    (h : RelF b w s g tmf owf fr a) (hp : Stp w s g acc w' s' g' acc') (ha : ∀ k c, fnd k acc = some c → owf k = some c)
    (hnx : ∀ k, fr' k → fr k ∧ fnd k acc' = none) (hd : ∀ d, dst = some d → d < b.sz) (ho : out.P w' s' g' v) : RelF b w' s' g' (updT tmf dst out) (updO owf acc') fr' (a.put dst v) := by
  have hrest : ∀ k c, fnd k acc' = none → owf k = some c → Ok1 w' s' g' k c ∧ blk g' k c = blk g k c ∧ ∀ k0 c0 N, fnd k0 acc = some c0 → blk g k c = some N → blk g k0 c0 ≠ some N := by
    intro k c hk hc
    have h1 := (h.ow k c hc).1
    have hne : ∀ k0 c0 N, fnd k0 acc = some c0 → blk g k c = some N → blk g k0 c0 ≠ some N := by
      intro k0 c0 N h0 hb
      have hkk : k0 ≠ k := by
        rintro rfl
        obtain ⟨c', hc'⟩ := hp.all k0 c0 h0
        rw [hk] at hc'; cases hc'
      exact h.sep k k0 c c0 N hc (ha k0 c0 h0) (Ne.symm hkk) hb
    refine ⟨h1.keep hp.ex hp.gle (hp.same k hk).2 (fun N hb => hp.block N (h1.lt hb) fun k0 c0 h0 => hne k0 c0 N h0 hb) (fun N o hb hs => ?_), blk_keep h1 hp.gle, hne⟩
    rcases hp.st N o hs with h2 | h2 | ⟨k0, c0, h0, h2⟩
    · exact h2
    · have := h1.lt hb; omega
    · exact absurd h2 (hne k0 c0 N h0 hb)
  have hfnd : ∀ k c, updO owf acc' k = some c → fnd k acc' = some c ∨ (fnd k acc' = none ∧ owf k = some c) := by
    intro k c hc
    unfold updO at hc
    cases hk : fnd k acc' with
    | none => rw [hk] at hc; exact .inr ⟨rfl, hc⟩
    | some c' => rw [hk] at hc; exact .inl hc
  refine ⟨⟨h.kp.ex.trans hp.ex, fun B o hs => ?_, hp.os.trans h.kp.os, hp.tape.trans h.kp.tape, hp.output.trans h.kp.output, Nat.le_trans h.kp.size hp.size, fun k hk hm => ?_, h.kp.gl⟩, hp.lt, ?_, ?_, ?_, ?_, ?_, ?_⟩
  · rcases hp.st B o hs with h1 | h1 | ⟨k0, c0, h0, h1⟩
    · exact h.kp.st B o h1
    · exact .inr (.inl (Nat.le_trans h.kp.size h1))
    · exact .inr ((h.ow k0 c0 (ha k0 c0 h0)).2 B h1)
  · refine (hp.block k (Nat.lt_of_lt_of_le hk h.kp.size) fun k0 c0 h0 hb => ?_).trans (h.kp.block k hk hm)
    rcases (h.ow k0 c0 (ha k0 c0 h0)).2 k hb with h1 | h1
    · omega
    · exact hm h1
  · rw [← h.sz]; cases dst <;> simp [Act.put]
  · intro t d hf
    cases dst with
    | none =>
      obtain ⟨u, hu, hd'⟩ := h.tm t d hf
      exact ⟨u, hu, TV.mono hp.ex hp.gle hd'⟩
    | some e =>
      have hf' : (if e = t then some out else tmf t) = some d := hf
      rw [put_tm a e v t (by rw [h.sz]; exact hd e rfl)]
      by_cases het : e = t
      · simp only [het, if_true] at hf' ⊢
        cases hf'
        exact ⟨v, rfl, ho⟩
      · simp only [het, if_false] at hf' ⊢
        obtain ⟨u, hu, hd'⟩ := h.tm t d hf'
        exact ⟨u, hu, TV.mono hp.ex hp.gle hd'⟩
  · intro k c hc
    rcases hfnd k c hc with h1 | ⟨h1, h2⟩
    · refine ⟨hp.ok k c h1, fun N hb => ?_⟩
      rcases hp.nb k c N h1 hb with h3 | ⟨k0, c0, h0, h3⟩
      · exact .inl (Nat.le_trans h.kp.size h3)
      · exact (h.ow k0 c0 (ha k0 c0 h0)).2 N h3
    · obtain ⟨h3, h4, _⟩ := hrest k c h1 h2
      exact ⟨h3, fun N hb => (h.ow k c h2).2 N (h4 ▸ hb)⟩
  · intro k k' c c' N hc hc' hne hb hb'
    rcases hfnd k c hc with h1 | ⟨h1, h2⟩ <;> rcases hfnd k' c' hc' with h1' | ⟨h1', h2'⟩
    · exact hp.sep k k' c c' N h1 h1' hne hb hb'
    · obtain ⟨h3, h4, h5⟩ := hrest k' c' h1' h2'
      rw [h4] at hb'
      rcases hp.nb k c N h1 hb with h6 | ⟨k0, c0, h0, h6⟩
      · have := (h.ow k' c' h2').1.lt hb'; omega
      · exact h5 k0 c0 N h0 hb' h6
    · obtain ⟨h3, h4, h5⟩ := hrest k c h1 h2
      rw [h4] at hb
      rcases hp.nb k' c' N h1' hb' with h6 | ⟨k0, c0, h0, h6⟩
      · have := (h.ow k c h2).1.lt hb; omega
      · exact h5 k0 c0 N h0 hb h6
    · obtain ⟨h3, h4, _⟩ := hrest k c h1 h2
      obtain ⟨h3', h4', _⟩ := hrest k' c' h1' h2'
      rw [h4] at hb
      rw [h4'] at hb'
      exact h.sep k k' c c' N h2 h2' hne hb hb'
  · intro k hk
    obtain ⟨hk', hnone⟩ := hnx k hk
    obtain ⟨e1, e2⟩ := hp.same k hnone
    obtain ⟨f1, f2⟩ := h.fr k hk'
    exact ⟨e1.trans f1, fun m => (e2 m).trans (f2 m)⟩
  · rw [← h.df]; cases dst <;> rfl

theorem RelF.drew {b : Ba} {w : World} {s : Sb} {g : Gh} {tmf : Nat → Option TV} {owf : Nat → Option Own} {fr : Nat → Prop} {a : Act} (h : RelF b w s g tmf owf fr a) (n : Nat) : RelF b { w with drawn := n } s g tmf owf fr a := by
  have hx : Ex w s { w with drawn := n } s := ⟨fun _ _ h => h, fun _ _ _ => rfl⟩
  refine ⟨⟨h.kp.ex.trans hx, h.kp.st, h.kp.os, h.kp.tape, h.kp.output, h.kp.size, h.kp.block, h.kp.gl⟩, h.lt, h.sz, fun t d ht => ?_, fun k c hk => ?_, h.sep, h.fr, h.df⟩
  · obtain ⟨v, h1, h2⟩ := h.tm t d ht
    exact ⟨v, h1, TV.mono hx (GLe.refl g) h2⟩
  · obtain ⟨h1, h2⟩ := h.ow k c hk
    exact ⟨h1.keep hx (GLe.refl g) (fun _ => rfl) (fun _ _ => rfl) (fun _ _ _ h => h), h2⟩

/-- A row of the trace: where it lays its value, which temporaries it reads; what it found; what it left. -/
structure Rw where
  dst : Option Tmp
  rd : List Nat
  ins : List (Nat × TV)
  acc : List (Nat × Own)
  out : TV
  acc' : List (Nat × Own)
  wr : Bool
  did : Bool
/-- What of a row the order may touch. -/
structure Ki where
  dst : Option Tmp
  rd : List Nat
  ord : List Nat
  owr : List Nat
def Rw.ki (r : Rw) : Ki := ⟨r.dst, r.rd, r.acc.map (·.1), if r.wr then r.acc'.map (·.1) else []⟩
/-- Whether an operation is carried out, by what it reads. -/
def Wd (ops : Array Oper) (o : Oper) (tm : List (Nat × TV)) (b : Bool) : Prop := ∀ w s g a, TmOk w s g tm a → Region.wanted o (yielded ops a.tmps) = b
structure RowOk (P : Program) (ops : Array Oper) (sz nx0 st i : Nat) (o : Oper) (tm : Nat → Option TV) (ow : Nat → Option Own) (r : Rw) : Prop where
  dst : r.dst = o.dst
  ins : ∀ t d, fnd t r.ins = some d → t ∈ r.rd ∧ tm t = some d
  acc : ∀ k c, fnd k r.acc = some c → ow k = some c
  same : r.wr = false → ∀ k c, fnd k r.acc' = some c → fnd k r.acc = some c
  new : ∀ k c, fnd k r.acc' = some c → (∃ c0, fnd k r.acc = some c0) ∨ (nx0 + st * i ≤ k ∧ k < nx0 + st * (i + 1))
  lt : dstB o.dst sz = true
  hop : (r.did = true → UOp P o r.ins r.acc r.out r.acc' ∧ Wd ops o r.ins true) ∧ (r.did = false → Wd ops o r.ins false ∧ (∀ w s g, r.out.P w s g undef) ∧ r.acc = [] ∧ r.acc' = [])
/-- The states along the text, of what has been carried out. -/
def tmAt (rows : List Rw) (L : Nat → Bool) (tm0 : Nat → Option TV) : Nat → Nat → Option TV
  | 0, t => tm0 t
  | m + 1, t => match rows[m]? with
    | some r => if L m = true ∧ r.dst = some t then some r.out else tmAt rows L tm0 m t
    | none => tmAt rows L tm0 m t
def owAt (rows : List Rw) (L : Nat → Bool) (ow0 : Nat → Option Own) : Nat → Nat → Option Own
  | 0, k => ow0 k
  | m + 1, k => match rows[m]? with
    | some r => if L m = true ∧ (r.wr = true ∧ (fnd k r.acc').isSome = true) then fnd k r.acc' else owAt rows L ow0 m k
    | none => owAt rows L ow0 m k
/-- Two operations of which the order tells (a stands ahead of b in the text). -/
def confl (a b : Ki) : Bool :=
  (match a.dst with | some t => b.rd.any (Nat.beq t) || (match b.dst with | some u => Nat.beq t u | none => false) | none => false) || (match b.dst with | some t => a.rd.any (Nat.beq t) | none => false) ||
  a.owr.any (fun k => b.ord.any (Nat.beq k) || b.owr.any (Nat.beq k)) || b.owr.any (fun k => a.ord.any (Nat.beq k))
/-- What stands ahead of j by the edges, and edges that go back only. -/
def ancOk (ops : Array Oper) (anc : List (List Nat)) : Prop :=
  ∀ j o, ops[j]? = some o → (∀ e ∈ o.after, Region.binds .any e = true → e.on < j) ∧ ∀ i ∈ anc.getD j [], ∃ e ∈ o.after, Region.binds .any e = true ∧ (e.on = i ∨ i ∈ anc.getD e.on [])
theorem any_beq {t : Nat} {l : List Nat} (h : t ∈ l) : l.any (Nat.beq t) = true := List.any_eq_true.2 ⟨t, h, Nat.beq_refl t⟩
theorem confl_w {a b : Ki} {t : Nat} (ha : a.dst = some t) (hb : t ∈ b.rd ∨ b.dst = some t) : confl a b = true := by
  unfold confl
  rw [ha]
  rcases hb with h | h
  · simp [any_beq h]
  · simp [h, Nat.beq_refl]
theorem confl_r {a b : Ki} {t : Nat} (ha : t ∈ a.rd) (hb : b.dst = some t) : confl a b = true := by
  unfold confl
  rw [hb]
  simp [any_beq ha]
theorem confl_ow {a b : Ki} {k : Nat} (ha : k ∈ a.owr) (hb : k ∈ b.ord ∨ k ∈ b.owr) : confl a b = true := by
  unfold confl
  have : a.owr.any (fun k => b.ord.any (Nat.beq k) || b.owr.any (Nat.beq k)) = true := List.any_eq_true.2 ⟨k, ha, by rcases hb with h | h <;> simp [any_beq h]⟩
  simp [this]
theorem confl_or {a b : Ki} {k : Nat} (hb : k ∈ b.owr) (ha : k ∈ a.ord) : confl a b = true := by
  unfold confl
  have : b.owr.any (fun k => a.ord.any (Nat.beq k)) = true := List.any_eq_true.2 ⟨k, hb, any_beq ha⟩
  simp [this]
/-- Ancestors have been carried out. -/
theorem anc_done {ops : Array Oper} {anc : List (List Nat)} (h : ancOk ops anc) {L : Nat → Bool} (hcl : ∀ j o, ops[j]? = some o → L j = true → ∀ e ∈ o.after, Region.binds .any e = true → L e.on = true) :
    ∀ (j : Nat), (∀ o, ops[j]? = some o → ∀ e ∈ o.after, Region.binds .any e = true → L e.on = true) → (∃ o, ops[j]? = some o) → ∀ i ∈ anc.getD j [], L i = true := by
  intro j
  induction j using Nat.strongRecOn with
  | ind j ih =>
    intro hd ⟨o, ho⟩ i hi
    obtain ⟨h1, h2⟩ := h j o ho
    obtain ⟨e, he, hb, h3⟩ := h2 i hi
    have hL := hd o ho e he hb
    rcases h3 with rfl | h3
    · exact hL
    · have hlt := h1 e he hb
      have hj : j < ops.size := (Array.getElem?_eq_some_iff.1 ho).1
      exact ih e.on hlt (fun o' ho' => hcl _ _ ho' hL) ⟨_, Array.getElem?_eq_getElem (by omega)⟩ i h3
section
variable {rows : List Rw} {tm0 : Nat → Option TV} {ow0 : Nat → Option Own} {L L' : Nat → Bool}
/-- The last row that lays a temporary. -/
theorem tmAt_congr {t n : Nat} (h : ∀ m r, m < n → rows[m]? = some r → r.dst = some t → L m = L' m) : tmAt rows L tm0 n t = tmAt rows L' tm0 n t := by
  induction n with
  | zero => rfl
  | succ n ih =>
    have ih' := ih fun m r hm => h m r (by omega)
    unfold tmAt
    cases hr : rows[n]? with
    | none => exact ih'
    | some r =>
      simp only
      by_cases hd : r.dst = some t
      · rw [h n r (by omega) hr hd, ih']
      · simp only [hd, and_false, if_false]; exact ih'
theorem tmAt_skip {t m n : Nat} (hmn : m ≤ n) (h : ∀ i r, m ≤ i → i < n → rows[i]? = some r → r.dst = some t → L i = false) : tmAt rows L tm0 n t = tmAt rows L tm0 m t := by
  induction n with
  | zero => have : m = 0 := by omega
            subst this; rfl
  | succ n ih =>
    rcases Nat.lt_or_ge n m with h1 | h1
    · have : m = n + 1 := by omega
      subst this; rfl
    · rw [← ih h1 fun i r h2 h3 => h i r h2 (by omega)]
      show tmAt rows L tm0 (n + 1) t = _
      unfold tmAt
      cases hr : rows[n]? with
      | none => simp only; cases n <;> rfl
      | some r =>
        simp only
        by_cases hd : r.dst = some t
        · rw [h n r h1 (by omega) hr hd]
          simp only [Bool.false_eq_true, false_and, if_false]
          cases n <;> rfl
        · simp only [hd, and_false, if_false]
          cases n <;> rfl
def ownw (r : Rw) (k : Nat) : Prop := r.wr = true ∧ (fnd k r.acc').isSome = true
theorem owAt_congr {t n : Nat} (h : ∀ m r, m < n → rows[m]? = some r → ownw r t → L m = L' m) : owAt rows L ow0 n t = owAt rows L' ow0 n t := by
  induction n with
  | zero => rfl
  | succ n ih =>
    have ih' := ih fun m r hm => h m r (by omega)
    unfold owAt
    cases hr : rows[n]? with
    | none => exact ih'
    | some r =>
      simp only
      by_cases hd : r.wr = true ∧ (fnd t r.acc').isSome = true
      · rw [h n r (by omega) hr hd, ih']
      · simp only [hd, and_false, if_false]; exact ih'
theorem owAt_skip {t m n : Nat} (hmn : m ≤ n) (h : ∀ i r, m ≤ i → i < n → rows[i]? = some r → ownw r t → L i = false) : owAt rows L ow0 n t = owAt rows L ow0 m t := by
  induction n with
  | zero => have : m = 0 := by omega
            subst this; rfl
  | succ n ih =>
    rcases Nat.lt_or_ge n m with h1 | h1
    · have : m = n + 1 := by omega
      subst this; rfl
    · rw [← ih h1 fun i r h2 h3 => h i r h2 (by omega)]
      show owAt rows L ow0 (n + 1) t = _
      unfold owAt
      cases hr : rows[n]? with
      | none => simp only; cases n <;> rfl
      | some r =>
        simp only
        by_cases hd : r.wr = true ∧ (fnd t r.acc').isSome = true
        · rw [h n r h1 (by omega) hr hd]
          simp only [Bool.false_eq_true, false_and, if_false]
          cases n <;> rfl
        · simp only [hd, and_false, if_false]
          cases n <;> rfl
end
end Go.Proofs.YtfkaepjlmgolhaaGreatDoor

/- Abstract execution: a region in any order that the edges allow. Nothing here speaks of the program. -/
namespace Go.Proofs.YtfkaepjlmgolhaaGreatDoor
open Go.RowKit

theorem keys_of {k : Nat} {c : Own} {l : List (Nat × Own)} (h : fnd k l = some c) : k ∈ l.map (·.1) := List.mem_map.2 ⟨_, fnd_mem h, rfl⟩
theorem keys_fnd {k : Nat} : ∀ {l : List (Nat × Own)}, k ∈ l.map (·.1) → ∃ c, fnd k l = some c
  | [], h => by cases h
  | (j, x) :: l, h => by
    rw [fnd_cons]
    by_cases e : j = k
    · exact ⟨x, by simp [e]⟩
    · simp only [e, if_false]
      refine keys_fnd ?_
      rcases List.mem_cons.1 h with h | h
      · exact absurd h.symm e
      · exact h
theorem getD_f {L : Array Bool} {j : Nat} (h : L.getD j true = false) : L.getD j false = false := by
  rw [Array.getD_eq_getD_getElem?] at *
  cases hx : L[j]? with
  | none => rfl
  | some x => rw [hx] at h; exact h
structure Tb (P : Program) (ops : Array Oper) (sz nx0 st : Nat) (rows : List Rw) (anc : List (List Nat)) (tm0 : Nat → Option TV) (ow0 : Nat → Option Own) : Prop where
  len : rows.length = ops.size
  row : ∀ i o r, ops[i]? = some o → rows[i]? = some r → RowOk P ops sz nx0 st i o (tmAt rows (fun _ => true) tm0 i) (owAt rows (fun _ => true) ow0 i) r
  hanc : ancOk ops anc
  cf : ∀ i j ri rj, i < j → rows[i]? = some ri → rows[j]? = some rj → confl ri.ki rj.ki = true → i ∈ anc.getD j []
  ow0 : ∀ k c, ow0 k = some c → k < nx0
section
variable {P : Program} {b : Ba} {ops : Array Oper} {rows : List Rw} {anc : List (List Nat)} {tm0 : Nat → Option TV} {ow0 : Nat → Option Own} {nx0 st : Nat}
theorem Tb.opAt {sz : Nat} (h : Tb P ops sz nx0 st rows anc tm0 ow0) {i : Nat} {r : Rw} (hr : rows[i]? = some r) : ∃ o, ops[i]? = some o := by
  have : i < ops.size := by rw [← h.len]; exact (List.getElem?_eq_some_iff.1 hr).1
  exact ⟨_, Array.getElem?_eq_getElem this⟩
theorem Tb.keyLt {sz : Nat} (h : Tb P ops sz nx0 st rows anc tm0 ow0) : ∀ (i : Nat) (k : Nat) (c : Own), owAt rows (fun _ => true) ow0 i k = some c → k < nx0 + st * i := by
  intro i
  induction i with
  | zero => intro k c hk; exact Nat.lt_of_lt_of_le (h.ow0 k c hk) (by omega)
  | succ i ih =>
    intro k c hk
    have e : st * (i + 1) = st * i + st := Nat.mul_succ st i
    unfold owAt at hk
    cases hr : rows[i]? with
    | none => rw [hr] at hk; have := ih k c hk; omega
    | some r =>
      rw [hr] at hk
      simp only [true_and] at hk
      by_cases hw : r.wr = true ∧ (fnd k r.acc').isSome = true
      · rw [if_pos hw] at hk
        obtain ⟨o, ho⟩ := h.opAt hr
        have hrow := h.row i o r ho hr
        rcases hrow.new k c hk with ⟨c0, h0⟩ | ⟨_, h2⟩
        · have := ih k c0 (hrow.acc k c0 h0); omega
        · exact h2
      · rw [if_neg hw] at hk
        have := ih k c hk; omega
theorem Tb.accLt {sz : Nat} (h : Tb P ops sz nx0 st rows anc tm0 ow0) {i : Nat} {r : Rw} (hr : rows[i]? = some r) {k : Nat} {c : Own} (hk : fnd k r.acc' = some c) : k < nx0 + st * (i + 1) := by
  obtain ⟨o, ho⟩ := h.opAt hr
  have hrow := h.row i o r ho hr
  have e : st * (i + 1) = st * i + st := Nat.mul_succ st i
  rcases hrow.new k c hk with ⟨c0, h0⟩ | ⟨_, h2⟩
  · have := h.keyLt i k c0 (hrow.acc k c0 h0); omega
  · exact h2
/-- What is free while these have been carried out. -/
def frL (rows : List Rw) (nx0 : Nat) (L : Nat → Bool) (k : Nat) : Prop := nx0 ≤ k ∧ ∀ i r, L i = true → rows[i]? = some r → fnd k r.acc' = none

/-- The law. -/
theorem wpAny_rows (T : Tb P ops b.sz nx0 st rows anc tm0 ow0) {Q : Exit → Act → World → Prop} (hQ : ∀ w s g a, RelF b w s g (tmAt rows (fun _ => true) tm0 ops.size) (owAt rows (fun _ => true) ow0 ops.size) (frL rows nx0 (fun i => decide (i < ops.size))) a → Q .normal a w) :
    ∀ (n : Nat) (L : Array Bool) (s : Sb) (g : Gh) (a : Act) (w : World), L.size = ops.size → (∀ j o, ops[j]? = some o → L.getD j false = true → ∀ e ∈ o.after, Region.binds .any e = true → L.getD e.on false = true) →
      ((List.range ops.size).filter (fun i => !(L.getD i false))).length ≤ n → RelF b w s g (tmAt rows (fun i => L.getD i false) tm0 ops.size) (owAt rows (fun i => L.getD i false) ow0 ops.size) (frL rows nx0 (fun i => L.getD i false)) a → wpAny P .any ops Q n L a w := by
  have hfin : ∀ (L : Array Bool) (s : Sb) (g : Gh) (a : Act) (w : World), L.size = ops.size → Region.ready .any ops L = [] → RelF b w s g (tmAt rows (fun i => L.getD i false) tm0 ops.size) (owAt rows (fun i => L.getD i false) ow0 ops.size) (frL rows nx0 (fun i => L.getD i false)) a → Q .normal a w := by
    intro L s g a w hsz hr hR
    have had : ∀ j, j < ops.size → L.getD j false = true := by
      intro j
      induction j using Nat.strongRecOn with
      | ind j ih =>
        intro hj
        cases h : L.getD j false with
        | true => rfl
        | false =>
          exfalso
          have ho : ops[j]? = some ops[j] := Array.getElem?_eq_getElem hj
          have : j ∈ Region.ready .any ops L := by
            refine mem_ready.2 ⟨?_, _, ho, fun e he hbd => ih _ ((T.hanc j _ ho).1 e he hbd) ?_⟩
            · rw [Array.getD_eq_getD_getElem?] at h ⊢
              rw [Array.getElem?_eq_getElem (by omega)] at h ⊢
              simpa using h
            · have := (T.hanc j _ ho).1 e he hbd; omega
          rw [hr] at this
          cases this
    refine hQ w s g a ?_
    have e1 : tmAt rows (fun i => L.getD i false) tm0 ops.size = tmAt rows (fun _ => true) tm0 ops.size := funext fun t => tmAt_congr fun m r hm _ _ => had m hm
    have e2 : owAt rows (fun i => L.getD i false) ow0 ops.size = owAt rows (fun _ => true) ow0 ops.size := funext fun t => owAt_congr fun m r hm _ _ => had m hm
    rw [e1, e2] at hR
    refine ⟨hR.kp, hR.lt, hR.sz, hR.tm, hR.ow, hR.sep, fun k hk => hR.fr k ⟨hk.1, fun i r hi hr => ?_⟩, hR.df⟩
    have hi' : i < ops.size := by rw [← T.len]; exact (List.getElem?_eq_some_iff.1 hr).1
    exact hk.2 i r (by simpa using hi') hr
  intro n
  induction n with
  | zero =>
    intro L s g a w hsz hcl hn hR
    have hr : Region.ready .any ops L = [] := by
      rw [List.eq_nil_iff_forall_not_mem]
      intro j hj
      obtain ⟨h0, o, ho, _⟩ := mem_ready.1 hj
      have hjl : j < ops.size := (Array.getElem?_eq_some_iff.1 ho).1
      have : j ∈ (List.range ops.size).filter (fun i => !(L.getD i false)) := List.mem_filter.2 ⟨List.mem_range.2 hjl, by simp [getD_f h0]⟩
      rw [List.length_eq_zero_iff.1 (Nat.le_zero.1 hn)] at this
      cases this
    exact ⟨hr, hfin L s g a w hsz hr hR⟩
  | succ n ih =>
    intro L s g a w hsz hcl hn hR
    refine ⟨fun hr => hfin L s g a w hsz hr hR, fun j hj => ?_⟩
    obtain ⟨h0, o, ho, hdeps⟩ := mem_ready.1 hj
    have hjl : j < ops.size := (Array.getElem?_eq_some_iff.1 ho).1
    have h0' : L.getD j false = false := getD_f h0
    obtain ⟨r, hr⟩ : ∃ r, rows[j]? = some r := ⟨_, List.getElem?_eq_getElem (by rw [T.len]; exact hjl)⟩
    have hrow := T.row j o r ho hr
    have hup : ∀ i ∈ anc.getD j [], L.getD i false = true := anc_done (L := fun i => L.getD i false) T.hanc hcl j (fun o' ho' => by rw [ho] at ho'; cases ho'; exact hdeps) ⟨o, ho⟩
    have hdn : ∀ i ri, rows[i]? = some ri → j ∈ anc.getD i [] → L.getD i false = false := by
      intro i ri hri hji
      cases hi : L.getD i false with
      | false => rfl
      | true =>
        obtain ⟨oi, hoi⟩ := T.opAt hri
        have := anc_done (L := fun i => L.getD i false) T.hanc hcl i (fun o' ho' => hcl i o' ho' hi) ⟨oi, hoi⟩ j hji
        rw [h0'] at this; cases this
    have hins : ∀ t d, fnd t r.ins = some d → tmAt rows (fun i => L.getD i false) tm0 ops.size t = some d := by
      intro t d ht
      obtain ⟨h1, h2⟩ := hrow.ins t d ht
      rw [tmAt_skip (m := j) (Nat.le_of_lt hjl) fun i ri hji hi hri hd => ?_, ← h2]
      · refine tmAt_congr fun m rm hm hrm hd => ?_
        exact hup m (T.cf m j rm r hm hrm hr (confl_w (t := t) hd (.inl h1)))
      · rcases Nat.eq_or_lt_of_le hji with rfl | hlt
        · exact h0'
        · exact hdn i ri hri (T.cf j i r ri hlt hr hri (confl_r (t := t) h1 hd))
    have hacc : ∀ k c, fnd k r.acc = some c → owAt rows (fun i => L.getD i false) ow0 ops.size k = some c := by
      intro k c hk
      have hkm : k ∈ r.ki.ord := keys_of hk
      rw [owAt_skip (m := j) (Nat.le_of_lt hjl) fun i ri hji hi hri hd => ?_, ← hrow.acc k c hk]
      · refine owAt_congr fun m rm hm hrm hd => ?_
        have hkw : k ∈ rm.ki.owr := by
          obtain ⟨c', hc'⟩ := Option.isSome_iff_exists.1 hd.2
          show k ∈ (if rm.wr then rm.acc'.map (·.1) else [])
          rw [if_pos hd.1]; exact keys_of hc'
        exact hup m (T.cf m j rm r hm hrm hr (confl_ow hkw (.inl hkm)))
      · rcases Nat.eq_or_lt_of_le hji with rfl | hlt
        · exact h0'
        · have hkw : k ∈ ri.ki.owr := by
            obtain ⟨c', hc'⟩ := Option.isSome_iff_exists.1 hd.2
            show k ∈ (if ri.wr then ri.acc'.map (·.1) else [])
            rw [if_pos hd.1]; exact keys_of hc'
          exact hdn i ri hri (T.cf j i r ri hlt hr hri (confl_or hkw hkm))
    have hfree : ∀ k c, fnd k r.acc' = some c → fnd k r.acc = none → frL rows nx0 (fun i => L.getD i false) k := by
      intro k c hk hno
      rcases hrow.new k c hk with ⟨c0, h1⟩ | ⟨h1, h2⟩
      · rw [hno] at h1; cases h1
      refine ⟨by omega, fun i ri hi hri => ?_⟩
      cases hx : fnd k ri.acc' with
      | none => rfl
      | some x =>
        exfalso
        have hi2 : L.getD i false = true := hi
        have hij : i ≠ j := by intro e; rw [e, h0'] at hi2; cases hi2
        rcases Nat.lt_or_gt_of_ne hij with hlt | hgt
        · have h3 := T.accLt hri hx
          have : st * (i + 1) ≤ st * j := Nat.mul_le_mul_left st hlt
          omega
        · have hw : r.wr = true := by
            cases hwr : r.wr with
            | true => rfl
            | false => have := hrow.same hwr k c hk; rw [hno] at this; cases this
          have hkw : k ∈ r.ki.owr := by
            show k ∈ (if r.wr then r.acc'.map (·.1) else [])
            rw [if_pos hw]; exact keys_of hk
          obtain ⟨oi, hoi⟩ := T.opAt hri
          have hrowi := T.row i oi ri hoi hri
          have hb : k ∈ ri.ki.ord := by
            rcases hrowi.new k x hx with ⟨c0, h3⟩ | ⟨h3, _⟩
            · exact keys_of h3
            · have : st * (j + 1) ≤ st * i := Nat.mul_le_mul_left st hgt
              omega
          have := hdn i ri hri (T.cf j i r ri hgt hr hri (confl_ow hkw (.inl hb)))
          have hi' : L.getD i false = true := hi
          rw [this] at hi'; cases hi'
    have hL' : ∀ i, i ≠ j → (L.setIfInBounds j true).getD i false = L.getD i false := fun i hi => getD_set_ne false (Ne.symm hi)
    have hLj : (L.setIfInBounds j true).getD j false = true := by
      rw [Array.getD_eq_getD_getElem?, Array.getElem?_setIfInBounds]; simp [hsz, hjl]
    have htm' : updT (tmAt rows (fun i => L.getD i false) tm0 ops.size) r.dst r.out = tmAt rows (fun i => (L.setIfInBounds j true).getD i false) tm0 ops.size := by
      funext t
      by_cases hd : r.dst = some t
      · rw [tmAt_skip (m := j + 1) hjl fun i ri hji hi hri hdi => ?_]
        · unfold tmAt
          rw [hr]
          simp only [hLj, hd, and_self, if_true]
          simp [updT]
        · rw [hL' i (by omega)]
          exact hdn i ri hri (T.cf j i r ri (by omega) hr hri (confl_w (t := t) hd (.inr hdi)))
      · have e1 : updT (tmAt rows (fun i => L.getD i false) tm0 ops.size) r.dst r.out t = tmAt rows (fun i => L.getD i false) tm0 ops.size t := by
          unfold updT
          cases hdd : r.dst with
          | none => rfl
          | some e =>
            have : e ≠ t := by rintro rfl; exact hd hdd
            simp [this]
        rw [e1]
        refine tmAt_congr fun m rm hm hrm hdm => ?_
        have : m ≠ j := by rintro rfl; rw [hr] at hrm; cases hrm; exact hd hdm
        exact (hL' m this).symm
    have how' : updO (owAt rows (fun i => L.getD i false) ow0 ops.size) r.acc' = owAt rows (fun i => (L.setIfInBounds j true).getD i false) ow0 ops.size := by
      funext k
      by_cases hd : ownw r k
      · rw [owAt_skip (m := j + 1) hjl fun i ri hji hi hri hdi => ?_]
        · unfold owAt
          rw [hr]
          have hd' : r.wr = true ∧ (fnd k r.acc').isSome = true := hd
          simp only [hLj, hd', and_self, if_true]
          obtain ⟨c, hc⟩ := Option.isSome_iff_exists.1 hd.2
          simp [updO, hc]
        · rw [hL' i (by omega)]
          obtain ⟨c, hc⟩ := Option.isSome_iff_exists.1 hd.2
          obtain ⟨c', hc'⟩ := Option.isSome_iff_exists.1 hdi.2
          have h1 : k ∈ r.ki.owr := by
            show k ∈ (if r.wr then r.acc'.map (·.1) else [])
            rw [if_pos hd.1]; exact keys_of hc
          have h2 : k ∈ ri.ki.owr := by
            show k ∈ (if ri.wr then ri.acc'.map (·.1) else [])
            rw [if_pos hdi.1]; exact keys_of hc'
          exact hdn i ri hri (T.cf j i r ri (by omega) hr hri (confl_ow h1 (.inr h2)))
      · have e1 : updO (owAt rows (fun i => L.getD i false) ow0 ops.size) r.acc' k = owAt rows (fun i => L.getD i false) ow0 ops.size k := by
          unfold updO
          cases hc : fnd k r.acc' with
          | none => rfl
          | some c =>
            have hw : r.wr = false := by
              cases hwr : r.wr with
              | false => rfl
              | true => exact absurd ⟨hwr, by rw [hc]; rfl⟩ hd
            exact (hacc k c (hrow.same hw k c hc)).symm
        rw [e1]
        refine owAt_congr fun m rm hm hrm hdm => ?_
        have : m ≠ j := by rintro rfl; rw [hr] at hrm; cases hrm; exact hd hdm
        exact (hL' m this).symm
    have hfr' : ∀ k, frL rows nx0 (fun i => (L.setIfInBounds j true).getD i false) k → frL rows nx0 (fun i => L.getD i false) k ∧ fnd k r.acc' = none := fun k hk =>
      ⟨⟨hk.1, fun i ri hi hri => hk.2 i ri (by
        show (L.setIfInBounds j true).getD i false = true
        by_cases hij : i = j
        · subst hij; exact hLj
        · rw [hL' i hij]; exact hi) hri⟩, hk.2 j r hLj hr⟩
    have hcount : ((List.range ops.size).filter (fun i => !((L.setIfInBounds j true).getD i false))).length ≤ n := by
      have hlt : ((List.range ops.size).filter (fun i => !((L.setIfInBounds j true).getD i false))).length < ((List.range ops.size).filter (fun i => !(L.getD i false))).length := by
        have hsub : ((List.range ops.size).filter (fun i => !((L.setIfInBounds j true).getD i false))) = ((List.range ops.size).filter (fun i => !(L.getD i false))).filter (fun i => i != j) := by
          rw [List.filter_filter]
          apply List.filter_congr
          intro i hi
          by_cases hij : i = j
          · subst hij
            simp only [hLj]; simp
          · rw [hL' i hij]
            simp [hij]
        rw [hsub]
        refine List.length_filter_lt_length_iff_exists.2 ⟨j, List.mem_filter.2 ⟨List.mem_range.2 hjl, by simp [h0']⟩, by simp⟩
      omega
    have hcl' : ∀ j' o', ops[j']? = some o' → (L.setIfInBounds j true).getD j' false = true → ∀ e ∈ o'.after, Region.binds .any e = true → (L.setIfInBounds j true).getD e.on false = true := by
      intro j' o' ho' hl e he hb
      have h1 : L.getD e.on false = true := by
        by_cases hjj : j' = j
        · subst hjj; rw [ho] at ho'; cases ho'; exact hdeps e he hb
        · rw [hL' j' hjj] at hl; exact hcl j' o' ho' hl e he hb
      by_cases hej : e.on = j
      · rw [hej]; exact hLj
      · rw [hL' _ hej]; exact h1
    have htok : TmOk w s g r.ins a := fun t d ht => hR.tm t d (hins t d ht)
    have hnext : ∀ w' s' g' v, r.out.P w' s' g' v → Stp w s g r.acc w' s' g' r.acc' → wpAny P .any ops Q n (L.setIfInBounds j true) (a.put o.dst v) w' := by
      intro w' s' g' v hv hp
      refine ih _ s' g' _ w' (by simp [hsz]) hcl' hcount ?_
      have := RelF.step hR hp hacc (dst := o.dst) (out := r.out) (v := v) hfr' (dstB_lt hrow.lt) hv
      rw [← hrow.dst, htm', how', hrow.dst] at this
      exact this
    unfold wpOp
    rw [ho]
    simp only
    cases hdid : r.did with
    | true =>
      obtain ⟨hu, hg⟩ := hrow.hop.1 hdid
      rw [hg _ _ _ _ htok]
      simp only [if_true]
      refine .inl (hu w s g a _ Q htok ⟨hR.lt, fun k c hk => (hR.ow k c (hacc k c hk)).1, fun k k' c c' N h1 h2 hne => hR.sep k k' c c' N (hacc k c h1) (hacc k' c' h2) hne, fun k c h1 h2 => hR.fr k (hfree k c h1 h2), hR.kp.gb⟩ hnext)
    | false =>
      obtain ⟨hg, e1, e2, e3⟩ := hrow.hop.2 hdid
      rw [hg _ _ _ _ htok]
      simp only [Bool.false_eq_true, if_false]
      refine hnext w s g undef (e1 w s g) ?_
      rw [e2, e3]
      exact Stp.refl w s g hR.lt
end
end Go.Proofs.YtfkaepjlmgolhaaGreatDoor

/- The evaluator: data, what they read as, states of data. Nothing here speaks of the program. -/
namespace Go.Proofs.YtfkaepjlmgolhaaGreatDoor
open Go.RowKit

/-- Data: a value as it stands; the cells of a struct; results of a call; slices (of elements that f tells; of rows); a pointer to cells that stay; a pointer into an own box; the last slice of an own row; a datum under a condition. -/
inductive D : Type 1
  | v (x : Value)
  | agg (l : List D)
  | tup (l : List D)
  | sl {α : Type} (sz : Nat) (l : List α) (f : α → List D) (e : α)
  | slr (sz : Nat) (rows : List (List D))
  | pt (row : List D)
  | bp (k off : Nat)
  | own (k sz : Nat) (rows : List (List D))
  | gd (c : Bool) (d : D)
  | op (p : PV)
def PV.no : PV := ⟨false, fun _ _ _ => False, fun _ _ _ _ _ _ h => h, fun h => by cases h⟩
mutual
def D.pv : D → PV
  | .v x => PV.lit x
  | .agg l => PV.agg (D.pvs l)
  | .tup l => PV.tup (D.pvs l)
  | .sl sz l f _ => PV.sl sz (l.map fun a => D.pvs (f a))
  | .slr sz rows => PV.sl sz (D.pvss rows)
  | .pt row => PV.pt (D.pvs row)
  | .bp _ _ => PV.no
  | .own _ sz rows => PV.sl sz (D.pvss rows)
  | .gd c d => PV.gd c d.pv
  | .op p => p
def D.pvs : List D → List PV
  | [] => []
  | d :: l => d.pv :: D.pvs l
def D.pvss : List (List D) → List (List PV)
  | [] => []
  | r :: l => D.pvs r :: D.pvss l
end
theorem pvs_map : ∀ l : List D, D.pvs l = l.map D.pv
  | [] => rfl
  | d :: l => by rw [D.pvs, pvs_map l]; rfl
theorem pvss_map : ∀ l : List (List D), D.pvss l = l.map D.pvs
  | [] => rfl
  | d :: l => by rw [D.pvss, pvss_map l]; rfl
theorem pvs_length (l : List D) : (D.pvs l).length = l.length := by rw [pvs_map]; simp
theorem pvss_length (l : List (List D)) : (D.pvss l).length = l.length := by rw [pvss_map]; simp
theorem pvs_get {l : List D} {i : Nat} {d : D} (h : l[i]? = some d) : (D.pvs l)[i]? = some d.pv := by rw [pvs_map]; simp [h]
theorem pvs_append (l r : List D) : D.pvs (l ++ r) = D.pvs l ++ D.pvs r := by simp [pvs_map]
theorem pvs_drop (l : List D) (n : Nat) : D.pvs (l.drop n) = (D.pvs l).drop n := by simp [pvs_map]
theorem pvs_take (l : List D) (n : Nat) : D.pvs (l.take n) = (D.pvs l).take n := by simp [pvs_map]
mutual
/-- What a datum reads as where boxes and rows of the call's own are known. -/
def D.tv : D → TV
  | .bp k off => .bp k off
  | .own k sz rows => .own k sz (D.pvss rows)
  | .gd c (.bp k off) => .gbp c k off
  | .agg l => .agg (D.tvl l)
  | d => .pv d.pv
def D.tvl : List D → List TV
  | [] => []
  | d :: l => d.tv :: D.tvl l
end
theorem tvl_map : ∀ l : List D, D.tvl l = l.map D.tv
  | [] => rfl
  | d :: l => by rw [D.tvl, tvl_map l]; rfl
theorem tvl_length (l : List D) : (D.tvl l).length = l.length := by rw [tvl_map]; simp
mutual
/-- A datum that reads without the call's own (a row of its own reads as a slice). -/
def D.pure : D → Bool
  | .bp _ _ => false
  | .gd _ (.bp _ _) => false
  | .agg l => D.pures l
  | _ => true
def D.pures : List D → Bool
  | [] => true
  | d :: l => match d.pure with | true => D.pures l | false => false
end
mutual
/-- A datum that reads the same with and without the call's own. -/
def D.flat : D → Bool
  | .bp _ _ => false
  | .own _ _ _ => false
  | .gd _ (.bp _ _) => false
  | .agg l => D.flats l
  | _ => true
def D.flats : List D → Bool
  | [] => true
  | d :: l => match d.flat with | true => D.flats l | false => false
end
theorem pures_cons {d : D} {l : List D} (h : D.pures (d :: l) = true) : d.pure = true ∧ D.pures l = true := by
  rw [D.pures] at h
  cases hd : d.pure with
  | true => rw [hd] at h; exact ⟨rfl, h⟩
  | false => rw [hd] at h; simp at h
theorem flats_cons {d : D} {l : List D} (h : D.flats (d :: l) = true) : d.flat = true ∧ D.flats l = true := by
  rw [D.flats] at h
  cases hd : d.flat with
  | true => rw [hd] at h; exact ⟨rfl, h⟩
  | false => rw [hd] at h; simp at h
theorem flats_all : ∀ {l : List D}, (∀ d ∈ l, d.flat = true) → D.flats l = true
  | [], _ => by rw [D.flats]
  | d :: l, h => by rw [D.flats, h d (by simp), flats_all fun e he => h e (by simp [he])]
theorem pures_all : ∀ {l : List D}, (∀ d ∈ l, d.pure = true) → D.pures l = true
  | [], _ => by rw [D.pures]
  | d :: l, h => by rw [D.pures, h d (by simp), pures_all fun e he => h e (by simp [he])]
def D.one : D → Bool
  | .v x => x.oneCell'
  | .sl _ _ _ _ => true
  | .slr _ _ => true
  | .pt _ => true
  | .bp _ _ => true
  | .own _ _ _ => true
  | _ => false
mutual
theorem D.toPV {d : D} (h : d.pure = true) : d.tv.toPV = some d.pv := by
  match d, h with
  | .v _, _ => rfl
  | .agg l, h =>
    rw [D.pure] at h
    rw [D.tv, TV.toPV, D.toPVs h, D.pv]
  | .tup _, _ => rfl
  | .sl _ _ _ _, _ => rfl
  | .slr _ _, _ => rfl
  | .pt _, _ => rfl
  | .own _ _ _, _ => rw [D.tv, TV.toPV, D.pv]
  | .op _, _ => rfl
  | .gd c (.bp _ _), h => simp [D.pure] at h
  | .gd c (.v _), _ => rfl
  | .gd c (.agg _), _ => rfl
  | .gd c (.tup _), _ => rfl
  | .gd c (.sl _ _ _ _), _ => rfl
  | .gd c (.slr _ _), _ => rfl
  | .gd c (.pt _), _ => rfl
  | .gd c (.own _ _ _), _ => rfl
  | .gd c (.op _), _ => rfl
  | .gd c (.gd _ _), _ => rfl
  | .bp _ _, h => simp [D.pure] at h
theorem D.toPVs {l : List D} (h : D.pures l = true) : TV.toPVs (D.tvl l) = some (D.pvs l) := by
  match l, h with
  | [], _ => rw [D.tvl, TV.toPVs, D.pvs]
  | d :: l, h =>
    obtain ⟨h1, h2⟩ := pures_cons h
    rw [D.tvl, TV.toPVs, D.toPV h1, D.toPVs h2, D.pvs]
end
theorem D.tv_one {d : D} (h : d.one = true) : d.tv.one = true := by
  match d, h with
  | .v _, h => exact h
  | .sl _ _ _ _, _ => rfl
  | .slr _ _, _ => rfl
  | .pt _, _ => rfl
  | .bp _ _, _ => rfl
  | .own _ _ _, _ => rfl
theorem D.pv_one {d : D} (h : d.one = true) (hp : d.pure = true) : d.pv.one = true := by
  match d, h, hp with
  | .v _, h, _ => exact h
  | .sl _ _ _ _, _, _ => rfl
  | .slr _ _, _, _ => rfl
  | .pt _, _, _ => rfl
  | .own _ _ _, _, _ => rfl
theorem D.reads {w : World} {s : Sb} {g : Gh} {d : D} {v : Value} (h : d.pure = true) (hv : d.tv.P w s g v) : d.pv.p w s v := TV.weak (D.toPV h) hv
mutual
/-- What reads as a flat datum reads as its telling. -/
theorem D.ofPV {w : World} {s : Sb} {g : Gh} {d : D} {v : Value} (h : d.flat = true) (hv : d.pv.p w s v) : d.tv.P w s g v := by
  match d, h, hv with
  | .v _, _, hv => exact hv
  | .agg l, h, hv =>
    rw [D.flat] at h
    rw [D.pv] at hv
    obtain ⟨vs, h1, h2⟩ := hv
    rw [D.tv, TV.P]
    exact ⟨vs, h1, D.ofPVs h h2⟩
  | .tup _, _, hv => exact hv
  | .sl _ _ _ _, _, hv => exact hv
  | .slr _ _, _, hv => exact hv
  | .pt _, _, hv => exact hv
  | .op _, _, hv => exact hv
  | .gd c (.v _), _, hv => exact hv
  | .gd c (.agg _), _, hv => exact hv
  | .gd c (.tup _), _, hv => exact hv
  | .gd c (.sl _ _ _ _), _, hv => exact hv
  | .gd c (.slr _ _), _, hv => exact hv
  | .gd c (.pt _), _, hv => exact hv
  | .gd c (.own _ _ _), _, hv => exact hv
  | .gd c (.op _), _, hv => exact hv
  | .gd c (.gd _ _), _, hv => exact hv
  | .gd c (.bp _ _), h, _ => simp [D.flat] at h
  | .bp _ _, h, _ => simp [D.flat] at h
  | .own _ _ _, h, _ => simp [D.flat] at h
theorem D.ofPVs {w : World} {s : Sb} {g : Gh} {l : List D} {vs : List Value} (h : D.flats l = true) (hv : AllV w s (D.pvs l) vs) : AllT w s g (D.tvl l) vs := by
  match l, vs, h, hv with
  | [], [], _, _ => rw [D.tvl, AllT]; trivial
  | d :: l, u :: vs, h, hv =>
    obtain ⟨h1, h2⟩ := flats_cons h
    rw [D.pvs] at hv
    rw [D.tvl, AllT]
    exact ⟨D.ofPV h1 hv.1, D.ofPVs h2 hv.2⟩
  | [], _ :: _, _, hv => rw [D.pvs] at hv; exact hv.elim
  | _ :: _, [], _, hv => rw [D.pvs] at hv; exact hv.elim
end

inductive DOwn : Type 1
  | box (ty : TypeId) (cs : List D)
  | row (ty : TypeId) (sz len : Nat)
def DOwn.o : DOwn → Own
  | .box ty cs => .box ty (D.tvl cs)
  | .row ty sz len => .row ty sz len
/-- A state of data. -/
structure DS : Type 1 where
  tm : List (Nat × D)
  ow : List (Nat × DOwn)
  nx : Nat
def tvs (l : List (Nat × D)) : List (Nat × TV) := l.map fun x => (x.1, x.2.tv)
def ows (l : List (Nat × DOwn)) : List (Nat × Own) := l.map fun x => (x.1, x.2.o)
def DS.ste (S : DS) : Ste := ⟨tvs S.tm, ows S.ow, S.nx⟩
/-- The first entry under a number, data of a higher kind. -/
def fnd1 {α : Type 1} (k : Nat) : List (Nat × α) → Option α
  | [] => none
  | (j, x) :: l => match Nat.beq j k with | true => some x | false => fnd1 k l
theorem fnd_tvs (k : Nat) : ∀ l : List (Nat × D), fnd k (tvs l) = (fnd1 k l).map D.tv
  | [] => rfl
  | (j, x) :: l => by
    show (match Nat.beq j k with | true => some x.tv | false => fnd k (tvs l)) = (match Nat.beq j k with | true => some x | false => fnd1 k l).map D.tv
    cases Nat.beq j k with
    | true => rfl
    | false => exact fnd_tvs k l
theorem fnd_ows (k : Nat) : ∀ l : List (Nat × DOwn), fnd k (ows l) = (fnd1 k l).map DOwn.o
  | [] => rfl
  | (j, x) :: l => by
    show (match Nat.beq j k with | true => some x.o | false => fnd k (ows l)) = (match Nat.beq j k with | true => some x | false => fnd1 k l).map DOwn.o
    cases Nat.beq j k with
    | true => rfl
    | false => exact fnd_ows k l
theorem fnd1_cons {α : Type 1} (k j : Nat) (x : α) (l : List (Nat × α)) : fnd1 k ((j, x) :: l) = if j = k then some x else fnd1 k l := by
  show (match Nat.beq j k with | true => some x | false => fnd1 k l) = _
  by_cases h : j = k
  · subst h
    rw [if_pos rfl, show Nat.beq j j = true from Nat.beq_refl j]
  · have hb : Nat.beq j k = false := by
      cases hb : Nat.beq j k with
      | false => rfl
      | true => exact absurd (Nat.eq_of_beq_eq_true hb) h
    rw [hb, if_neg h]

/-- Lists taken apart strictly. -/
def dropS : Nat → List D → List D
  | 0, l => l
  | _ + 1, [] => []
  | n + 1, _ :: l => dropS n l
theorem dropS_eq : ∀ (n : Nat) (l : List D), dropS n l = l.drop n
  | 0, l => rfl
  | _ + 1, [] => by simp [dropS]
  | n + 1, _ :: l => by simpa [dropS] using dropS_eq n l
def getS : Nat → List D → Option D
  | _, [] => none
  | 0, d :: _ => some d
  | n + 1, _ :: l => getS n l
theorem getS_eq : ∀ (n : Nat) (l : List D), getS n l = l[n]?
  | _, [] => by simp [getS]
  | 0, d :: _ => by simp [getS]
  | n + 1, _ :: l => by simpa [getS] using getS_eq n l
/-- The first n, each of which p allows. -/
def takeS (p : D → Bool) : Nat → List D → Option (List D)
  | 0, _ => some []
  | _ + 1, [] => none
  | n + 1, d :: l => match p d with
    | true => match takeS p n l with
      | some r => some (d :: r)
      | none => none
    | false => none
theorem takeS_some {p : D → Bool} : ∀ {n : Nat} {l r : List D}, takeS p n l = some r → n ≤ l.length ∧ (∀ d ∈ r, p d = true) ∧ r = l.take n
  | 0, l, r, h => by simp [takeS] at h; subst h; simp
  | _ + 1, [], r, h => by simp [takeS] at h
  | n + 1, d :: l, r, h => by
    unfold takeS at h
    cases hp : p d with
    | false => rw [hp] at h; simp at h
    | true =>
      rw [hp] at h
      simp only at h
      cases ht : takeS p n l with
      | none => rw [ht] at h; simp at h
      | some r' =>
        rw [ht] at h
        simp at h
        subst h
        obtain ⟨h1, h2, h3⟩ := takeS_some ht
        refine ⟨by simpa using h1, fun x hx => ?_, by simp [h3]⟩
        rcases List.mem_cons.1 hx with rfl | hx
        · exact hp
        · exact h2 x hx
/-- Cells laid over a list from a place on. -/
def layS : Nat → List D → List D → Option (List D)
  | 0, [], l => some l
  | 0, d :: ds, _ :: l => match layS 0 ds l with
    | some r => some (d :: r)
    | none => none
  | 0, _ :: _, [] => none
  | n + 1, ds, x :: l => match layS n ds l with
    | some r => some (x :: r)
    | none => none
  | _ + 1, _, [] => none
theorem layS_some : ∀ {n : Nat} {ds l r : List D}, layS n ds l = some r → n + ds.length ≤ l.length ∧ r = l.take n ++ ds ++ l.drop (n + ds.length)
  | 0, [], l, r, h => by simp [layS] at h; subst h; simp
  | 0, d :: ds, x :: l, r, h => by
    unfold layS at h
    cases ht : layS 0 ds l with
    | none => rw [ht] at h; simp at h
    | some r' =>
      rw [ht] at h
      simp at h
      subst h
      obtain ⟨h1, h2⟩ := layS_some ht
      refine ⟨by simp at h1 ⊢; omega, ?_⟩
      simp at h2
      simp [h2]
  | 0, _ :: _, [], r, h => by simp [layS] at h
  | n + 1, ds, x :: l, r, h => by
    unfold layS at h
    cases ht : layS n ds l with
    | none => rw [ht] at h; simp at h
    | some r' =>
      rw [ht] at h
      simp at h
      subst h
      obtain ⟨h1, h2⟩ := layS_some ht
      refine ⟨by simp; omega, ?_⟩
      rw [show n + 1 + ds.length = (n + ds.length) + 1 by omega]
      simp [h2]
  | _ + 1, _, [], r, h => by simp [layS] at h
end Go.Proofs.YtfkaepjlmgolhaaGreatDoor

/- Abstract execution: conversions, slices of slices, appending. Nothing here speaks of the program. -/
namespace Go.Proofs.YtfkaepjlmgolhaaGreatDoor
open Go.RowKit

/-- What appending wants of a slice type. -/
structure AppT (P : Program) (t e : TypeId) (sz : Nat) : Prop where
  h : ∃ ie z, P.underlying t = some (.slice e) ∧ P.info? e = some ie ∧ ie.zero = some z ∧ ie.size = sz ∧ z.cells.size = sz ∧ 0 < sz ∧ 0 < ie.bytes ∧ ie.bytes ≤ 4096
/-- A bound of a slice expression. -/
def Bnd (tm : List (Nat × TV)) (x : Option Operand) (dflt n : Int) : Prop := match x with
  | none => n = dflt
  | some o => ∃ k, Opd tm o (.pv (PV.lit (.int k n)))
theorem PV.sl_cut {w : World} {s : Sb} {sz : Nat} {rows : List (List PV)} {a : Option Addr} {cap l h : Nat} (hl : l ≤ h) (hh : h ≤ rows.length) (hc : rows.length ≤ cap) (hm : cap ≤ 9223372036854775807) (hz : ∀ row ∈ rows, row.length = sz)
    (hr : ∀ i row, rows[i]? = some row → ∃ b off, a = some ⟨b, off, none⟩ ∧ CellsAt w s b (off + i * sz) row) :
    (PV.sl sz ((rows.drop l).take (h - l))).p w s (.slice (if cap = l then a else a.map (·.add (l * sz))) (h - l) (cap - l)) := by
  have hlen : ((rows.drop l).take (h - l)).length = h - l := by simp; omega
  refine ⟨_, cap - l, by rw [hlen], by rw [hlen]; omega, by omega, fun row hrow => hz row (List.mem_of_mem_drop (List.mem_of_mem_take hrow)), fun i row hi => ?_⟩
  rw [List.getElem?_take] at hi
  split at hi
  · rename_i hlt
    rw [List.getElem?_drop] at hi
    obtain ⟨b, off, rfl, h1⟩ := hr _ _ hi
    have : cap ≠ l := by omega
    refine ⟨b, off + l * sz, ?_, ?_⟩
    · rw [if_neg this]; simp [Addr.add_mid]
    · have e : off + (l + i) * sz = off + l * sz + i * sz := by rw [Nat.add_mul]; omega
      rw [← e]; exact h1
  · cases hi
section
variable {P : Program} {tm : List (Nat × TV)} {dst : Option Tmp} {ty : TypeId} {pos : String} {aft : Array Edge} {gd : Option (Nat × Bool)}
theorem u_slice {x : Operand} {t : TypeId} {sz : Nat} {rows : List (List PV)} {d : TV} {lo hi : Option Operand} {l h : Int} (hT : SlT P t sz) (hx : Opd tm x d) (hd : d.toPV = some (PV.sl sz rows)) (h1 : Bnd tm lo 0 l) (h2 : Bnd tm hi rows.length h) (h0 : 0 ≤ l) (hlh : l ≤ h) (hhn : h ≤ rows.length) :
    UOp P ⟨dst, .slice t x lo hi none, ty, pos, aft, gd⟩ tm [] (.pv (PV.sl sz ((rows.drop l.toNat).take (h.toNat - l.toNat)))) [] :=
  UOp.pure fun w s g a ht => by
    obtain ⟨e, hu, he⟩ := hT.h
    obtain ⟨ad, cap, h3, h4, h5, h6, h7⟩ := TV.weak hd (Opd.eval ht hx)
    have h3' : a.eval x = .slice ad rows.length cap := h3
    obtain ⟨m, rfl⟩ := Int.eq_ofNat_of_zero_le h0
    obtain ⟨n, rfl⟩ := Int.eq_ofNat_of_zero_le (by omega : 0 ≤ h)
    have hmn : m ≤ n := by omega
    have hn : n ≤ rows.length := by omega
    have hb : (Instr.sliceBounds true rows.length cap (lo.map a.eval) (hi.map a.eval) none).run P w = .ok (m, n, cap) w := by
      have hlo : ∀ h' : Nat, m ≤ h' → (match lo.map a.eval with | some v => Instr.sliceBound v h' .sliceB | none => (pure 0 : Sem Nat)).run P w = .ok m w := by
        intro h' hm
        cases lo with
        | none => have : (m : Int) = 0 := h1
                  have : m = 0 := by omega
                  subst this; rfl
        | some o =>
          obtain ⟨k, hk⟩ := h1
          have hv := Opd.lit ht hk
          simp only [Option.map_some, hv]
          rw [run_sliceBound w k _ h' _ (by omega) (by omega)]
          rfl
      have hhi : (match hi.map a.eval with | some v => Instr.sliceBound v cap .sliceAcap | none => (pure rows.length : Sem Nat)).run P w = .ok n w := by
        cases hi with
        | none => have : (n : Int) = rows.length := h2
                  have : n = rows.length := by omega
                  subst this; rfl
        | some o =>
          obtain ⟨k, hk⟩ := h2
          have hv := Opd.lit ht hk
          simp only [Option.map_some, hv]
          rw [run_sliceBound w k _ cap _ (by omega) (by omega)]
          rfl
      have hlo' := hlo n hmn
      unfold Instr.sliceBounds
      cases lo <;> cases hi <;> simp_all
    refine ⟨.slice (if cap = m then ad else ad.map (·.add (m * sz))) (n - m) (cap - m), exec_value (s := Instr.sliceAt t (a.eval x) (lo.map a.eval) (hi.map a.eval) none) ?_, ?_⟩
    · rw [h3']
      simp [Instr.sliceAt, run_underlying hu, Instr.slice, hb, sizeOf_run he]
    · exact PV.sl_cut hmn hn h4 h5 h6 h7
theorem u_sliceStr {x : Operand} {t : TypeId} {p : ByteArray} {lo hi : Option Operand} {l h : Int} (hT : P.underlying t = some .string) (hx : Opd tm x (.pv (PV.lit (.string p)))) (h1 : Bnd tm lo 0 l) (h2 : Bnd tm hi p.size h) (h0 : 0 ≤ l) (hlh : l ≤ h) (hhn : h ≤ p.size) :
    UOp P ⟨dst, .slice t x lo hi none, ty, pos, aft, gd⟩ tm [] (.pv (PV.lit (.string (p.extract l.toNat h.toNat)))) [] :=
  UOp.pure fun w s g a ht => by
    have h3' := Opd.lit ht hx
    obtain ⟨m, rfl⟩ := Int.eq_ofNat_of_zero_le h0
    obtain ⟨n, rfl⟩ := Int.eq_ofNat_of_zero_le (by omega : 0 ≤ h)
    have hmn : m ≤ n := by omega
    have hn : n ≤ p.size := by omega
    have hb : (Instr.sliceBounds false p.size p.size (lo.map a.eval) (hi.map a.eval) none).run P w = .ok (m, n, p.size) w := by
      have hlo : ∀ h' : Nat, m ≤ h' → (match lo.map a.eval with | some v => Instr.sliceBound v h' .sliceB | none => (pure 0 : Sem Nat)).run P w = .ok m w := by
        intro h' hm
        cases lo with
        | none => have : (m : Int) = 0 := h1
                  have : m = 0 := by omega
                  subst this; rfl
        | some o =>
          obtain ⟨k, hk⟩ := h1
          have hv := Opd.lit ht hk
          simp only [Option.map_some, hv]
          rw [run_sliceBound w k _ h' _ (by omega) (by omega)]
          rfl
      have hhi : (match hi.map a.eval with | some v => Instr.sliceBound v p.size .sliceAlen | none => (pure p.size : Sem Nat)).run P w = .ok n w := by
        cases hi with
        | none => have : (n : Int) = p.size := h2
                  have : n = p.size := by omega
                  subst this; rfl
        | some o =>
          obtain ⟨k, hk⟩ := h2
          have hv := Opd.lit ht hk
          simp only [Option.map_some, hv]
          rw [run_sliceBound w k _ p.size _ (by omega) (by omega)]
          rfl
      have hlo' := hlo n hmn
      unfold Instr.sliceBounds
      cases lo <;> cases hi <;> simp_all
    refine ⟨.string (p.extract m n), exec_value (s := Instr.sliceAt t (a.eval x) (lo.map a.eval) (hi.map a.eval) none) ?_, rfl⟩
    rw [h3']
    simp [Instr.sliceAt, run_underlying hT, Instr.slice, hb]
theorem u_conv {x : Operand} {src dt : TypeId} {k k' : IntKind} {n : Int} {u : TypeDesc} (hs : P.underlying src = some u) (hd : P.underlying dt = some (.int k')) (hx : Opd tm x (.pv (PV.lit (.int k n)))) :
    UOp P ⟨dst, .convert src dt x, ty, pos, aft, gd⟩ tm [] (.pv (PV.lit (.int k' (k'.wrap n)))) [] :=
  UOp.pure fun w s g a ht => by
    have h1 := Opd.lit ht hx
    refine ⟨.int k' (k'.wrap n), exec_value (s := convert src dt (a.eval x)) ?_, rfl⟩
    rw [h1]
    simp [convert, run_underlying hs, run_underlying hd, Conv.intToInt]
end
end Go.Proofs.YtfkaepjlmgolhaaGreatDoor

/- Abstract execution: rows of the call's own: made, appended to. Nothing here speaks of the program. -/
namespace Go.Proofs.YtfkaepjlmgolhaaGreatDoor
open Go.RowKit

/-- A slice that a row of its own is at a length. -/
def Gh.setRow (g : Gh) (k len : Nat) (v : Value) : Gh := { g with gn := fun j m => if j = k ∧ m = len then some v else g.gn j m }
theorem Gh.setRow_eq (g : Gh) (k len : Nat) (v : Value) : (g.setRow k len v).gn k len = some v := by simp [Gh.setRow]
theorem Gh.setRow_ne (g : Gh) {k len j m : Nat} (v : Value) (h : ¬ (j = k ∧ m = len)) : (g.setRow k len v).gn j m = g.gn j m := by simp [Gh.setRow, h]
theorem cell_block {w w' : World} {b o : Nat} (h : w'.heap[b]? = w.heap[b]?) : w'.cell? ⟨b, o, none⟩ = w.cell? ⟨b, o, none⟩ := World.cell?_of_block h
/-- A step that makes a row of its own. -/
theorem Stp.newRow {w w' : World} {s : Sb} {g : Gh} {k sz len cap : Nat} {e : TypeId} {cur : Array Value} (hl : ∀ B o, s B o → B < w.heap.size) (hf : g.bx k = none ∧ ∀ m, g.gn k m = none)
    (hs : w'.heap.size = w.heap.size + 1) (hb : ∀ N, N < w.heap.size → w'.heap[N]? = w.heap[N]?) (hn : w'.heap[w.heap.size]? = some (.cells cur e (0, 0))) (h1 : w'.os = w.os) (h2 : w'.tape = w.tape) (h3 : w'.output = w.output)
    (hc : len ≤ cap) (hm : cap ≤ maxLen) (hz : cur.size = cap * sz) :
    Stp w s g [] w' (fun B o => s B o ∨ (B = w.heap.size ∧ o < len * sz)) (g.setRow k len (.slice (some ⟨w.heap.size, 0, none⟩) len cap)) [(k, .row e sz len)] := by
  have hone : ∀ {j : Nat} {c : Own}, fnd j [(k, Own.row e sz len)] = some c → j = k ∧ c = .row e sz len := by
    intro j c h
    rw [fnd_cons] at h
    by_cases e' : k = j
    · simp only [e', if_true] at h; cases h; exact ⟨e'.symm, rfl⟩
    · simp only [e', if_false] at h; cases h
  refine ⟨⟨fun _ _ h => .inl h, fun b o h => cell_block (hb b (hl b o h))⟩, fun B o h => ?_, ⟨fun _ _ h => h, fun j m v h => ?_⟩, fun j h => ⟨rfl, fun m => ?_⟩, h1, h2, h3, by omega, fun N hN _ => hb N hN, fun B o h => ?_, fun j c h => ?_, fun j c N h hN => ?_, fun j j' c c' N h h' hne => ?_, fun j c h => by cases h⟩
  · rcases h with h | ⟨rfl, _⟩
    · have := hl B o h; omega
    · omega
  · by_cases hjm : j = k ∧ m = len
    · obtain ⟨rfl, rfl⟩ := hjm; rw [hf.2] at h; cases h
    · rw [Gh.setRow_ne _ _ hjm]; exact h
  · have hjk : j ≠ k := by
      rintro rfl
      rw [fnd_cons] at h; simp at h
    exact Gh.setRow_ne _ _ (fun e => hjk e.1)
  · rcases h with h | ⟨rfl, _⟩
    · exact .inl h
    · exact .inr (.inl (Nat.le_refl _))
  · obtain ⟨rfl, rfl⟩ := hone h
    refine ⟨fun m hm => by rw [Gh.setRow_ne _ _ (by omega)]; exact hf.2 m, _, Gh.setRow_eq _ _ _ _, .inr ⟨_, cap, cur, rfl, hn, hc, hm, hz, fun o ho hso => ?_⟩⟩
    rcases hso with hso | ⟨_, hso⟩
    · have := hl _ _ hso; omega
    · omega
  · obtain ⟨rfl, rfl⟩ := hone h
    have : blk (g.setRow j len (.slice (some ⟨w.heap.size, 0, none⟩) len cap)) j (.row e sz len) = some w.heap.size := by
      show ((g.setRow j len _).gn j len).bind Value.ownBlock = _
      rw [Gh.setRow_eq]; rfl
    rw [this] at hN; cases hN
    exact .inl (Nat.le_refl _)
  · obtain ⟨rfl, rfl⟩ := hone h
    obtain ⟨rfl, rfl⟩ := hone h'
    exact absurd rfl hne
/-- A row of no place. -/
theorem Stp.ghostRow {w : World} {s : Sb} {g : Gh} {k sz : Nat} {e : TypeId} (hl : ∀ B o, s B o → B < w.heap.size) (hf : g.bx k = none ∧ ∀ m, g.gn k m = none) :
    Stp w s g [] w s (g.setRow k 0 (.slice none 0 0)) [(k, .row e sz 0)] := by
  have hone : ∀ {j : Nat} {c : Own}, fnd j [(k, Own.row e sz 0)] = some c → j = k ∧ c = .row e sz 0 := by
    intro j c h
    rw [fnd_cons] at h
    by_cases e' : k = j
    · simp only [e', if_true] at h; cases h; exact ⟨e'.symm, rfl⟩
    · simp only [e', if_false] at h; cases h
  refine ⟨Ex.refl w s, hl, ⟨fun _ _ h => h, fun j m v h => ?_⟩, fun j h => ⟨rfl, fun m => ?_⟩, rfl, rfl, rfl, Nat.le_refl _, fun N hN _ => rfl, fun B o h => .inl h, fun j c h => ?_, fun j c N h hN => ?_, fun j j' c c' N h h' hne => ?_, fun j c h => by cases h⟩
  · by_cases hjm : j = k ∧ m = 0
    · obtain ⟨rfl, rfl⟩ := hjm; rw [hf.2] at h; cases h
    · rw [Gh.setRow_ne _ _ hjm]; exact h
  · have hjk : j ≠ k := by
      rintro rfl
      rw [fnd_cons] at h; simp at h
    exact Gh.setRow_ne _ _ (fun e => hjk e.1)
  · obtain ⟨rfl, rfl⟩ := hone h
    exact ⟨fun m hm => by rw [Gh.setRow_ne _ _ (by omega)]; exact hf.2 m, _, Gh.setRow_eq _ _ _ _, .inl ⟨rfl, rfl⟩⟩
  · obtain ⟨rfl, rfl⟩ := hone h
    have : blk (g.setRow j 0 (.slice none 0 0)) j (.row e sz 0) = none := by
      show ((g.setRow j 0 _).gn j 0).bind Value.ownBlock = _
      rw [Gh.setRow_eq]; rfl
    rw [this] at hN; cases hN
  · obtain ⟨rfl, rfl⟩ := hone h
    obtain ⟨rfl, rfl⟩ := hone h'
    exact absurd rfl hne
/-- The cells of a slice that reads as rows. -/
theorem sl_cells {w : World} {s : Sb} {sz : Nat} : ∀ {rows : List (List PV)} {b off : Nat}, (∀ row ∈ rows, row.length = sz) → (∀ i row, rows[i]? = some row → CellsAt w s b (off + i * sz) row) →
    ∃ vs : List Value, vs.length = rows.length * sz ∧ w.rangeAt b off vs ∧ (∀ v ∈ vs, v.oneCell' = true) ∧ ∀ i row j d, rows[i]? = some row → row[j]? = some d → ∃ u, vs[i * sz + j]? = some u ∧ d.p w s u
  | [], b, off, _, _ => ⟨[], by simp, fun j v hv => by simp at hv, (fun v hv => by cases hv), fun i row j d hi => by simp at hi⟩
  | r :: rows, b, off, hz, h => by
    have h0 := h 0 r rfl
    simp only [Nat.zero_mul, Nat.add_zero] at h0
    obtain ⟨vs, h1, h2, h3, h4⟩ := cells_list h0
    obtain ⟨us, g1, g2, g3, g4⟩ := sl_cells (w := w) (s := s) (rows := rows) (b := b) (off := off + sz) (fun row hr => hz row (by simp [hr])) (fun i row hi => by
      have := h (i + 1) row (by simpa using hi)
      rw [show off + (i + 1) * sz = off + sz + i * sz by rw [Nat.add_mul]; omega] at this
      exact this)
    have hr := hz r (by simp)
    refine ⟨vs ++ us, by simp [h1, g1, hr, Nat.add_mul]; omega, fun j v hv => ?_, fun v hv => ?_, fun i row j d hi hj => ?_⟩
    · rcases Nat.lt_or_ge j vs.length with hlt | hge
      · rw [List.getElem?_append_left hlt] at hv
        exact h2 j v hv
      · rw [List.getElem?_append_right hge] at hv
        have := g2 _ v hv
        rw [h1, hr, show off + sz + (j - sz) = off + j by rw [h1, hr] at hge; omega] at this
        exact this
    · rcases List.mem_append.1 hv with hv | hv
      · exact h4 v hv
      · exact g3 v hv
    · cases i with
      | zero =>
        simp at hi; subst hi
        obtain ⟨u, h5, h6⟩ := h3.get hj
        have hjl : j < vs.length := (List.getElem?_eq_some_iff.1 h5).1
        exact ⟨u, by rw [Nat.zero_mul, Nat.zero_add, List.getElem?_append_left hjl]; exact h5, h6⟩
      | succ i =>
        obtain ⟨u, h5, h6⟩ := g4 i row j d (by simpa using hi) hj
        refine ⟨u, ?_, h6⟩
        rw [List.getElem?_append_right (by rw [h1, hr, Nat.add_mul]; omega), h1, hr, show (i + 1) * sz + j - sz = i * sz + j by rw [Nat.add_mul]; omega]
        exact h5
theorem PV.sl_src {w : World} {s : Sb} {sz : Nat} {rows : List (List PV)} {x : Value} (h : (PV.sl sz rows).p w s x) : ∃ a c vs, x = .slice a rows.length c ∧ vs.length = rows.length * sz ∧ (∀ v ∈ vs, v.oneCell' = true) ∧
    (0 < rows.length → ∃ b off, a = some ⟨b, off, none⟩ ∧ w.rangeAt b off vs) ∧ ∀ i row j d, rows[i]? = some row → row[j]? = some d → ∃ u, vs[i * sz + j]? = some u ∧ d.p w s u := by
  obtain ⟨a, c, h1, h2, h3, h4, h5⟩ := h
  by_cases h0 : 0 < rows.length
  · obtain ⟨b, off, rfl, _⟩ := h5 0 _ (List.getElem?_eq_getElem h0)
    obtain ⟨vs, g1, g2, g3, g4⟩ := sl_cells (w := w) (s := s) (b := b) (off := off) h4 (fun i row hi => by
      obtain ⟨b', off', e, hc⟩ := h5 i row hi
      cases e; exact hc)
    exact ⟨_, c, vs, h1, g1, g3, fun _ => ⟨b, off, rfl, g2⟩, g4⟩
  · have hr : rows = [] := List.eq_nil_of_length_eq_zero (by omega)
    subst hr
    exact ⟨a, c, [], h1, by simp, (fun v hv => by cases hv), fun h => absurd h (by simp), fun i row j d hi => by simp at hi⟩
/-- A slice over a block whose cells are these. -/
theorem PV.sl_block {w : World} {s : Sb} {sz cap G : Nat} {rows : List (List PV)} {vs : List Value} (hz : ∀ row ∈ rows, row.length = sz) (hlen : vs.length = rows.length * sz) (hc : rows.length ≤ cap) (hm : cap ≤ maxLen)
    (hcell : ∀ j u, vs[j]? = some u → w.cell? ⟨G, j, none⟩ = some u) (hs : ∀ o, o < rows.length * sz → s G o) (h1 : ∀ v ∈ vs, v.oneCell' = true) (hp : ∀ i row j d, rows[i]? = some row → row[j]? = some d → ∃ u, vs[i * sz + j]? = some u ∧ d.p w s u) :
    (PV.sl sz rows).p w s (.slice (some ⟨G, 0, none⟩) rows.length cap) := by
  refine ⟨_, cap, rfl, hc, by simpa [maxLen] using hm, hz, fun i row hi => ⟨G, 0, rfl, fun j d hj => ?_⟩⟩
  obtain ⟨u, h2, h3⟩ := hp i row j d hi hj
  have hlt := (List.getElem?_eq_some_iff.1 h2).1
  refine ⟨u, by rw [Nat.zero_add]; exact hcell _ u h2, hs _ (by omega), h3, h1 u (List.mem_of_getElem? h2)⟩
theorem Own.row_one {k j sz len : Nat} {e : TypeId} {c : Own} (h : fnd j [(k, Own.row e sz len)] = some c) : j = k ∧ c = .row e sz len := by
  rw [fnd_cons] at h
  by_cases e' : k = j
  · simp only [e', if_true] at h; cases h; exact ⟨e'.symm, rfl⟩
  · simp only [e', if_false] at h; cases h
theorem blk_row {g : Gh} {k sz len : Nat} {e : TypeId} {v : Value} (h : g.gn k len = some v) : blk g k (.row e sz len) = v.ownBlock := by
  show (g.gn k len).bind Value.ownBlock = _
  rw [h]; rfl
/-- A step that lengthens a row of its own: in its block or in a new one. -/
theorem Stp.moreRow {w w' : World} {s : Sb} {g : Gh} {k sz n m : Nat} {e : TypeId} {v v' : Value} (hg : Good w s g [(k, .row e sz n)] [(k, .row e sz (n + m))]) (hv : g.gn k n = some v) (h0 : m = 0 → v' = v) {G cap : Nat} {cur : Array Value} (hv' : v' = .slice (some ⟨G, 0, none⟩) (n + m) cap)
    (hG : v.ownBlock = some G ∨ G = w.heap.size) (hlt : G < w'.heap.size) (hs : w.heap.size ≤ w'.heap.size) (hb : ∀ N, N < w.heap.size → N ≠ G → w'.heap[N]? = w.heap[N]?) (hold : ∀ o, o < n * sz → G < w.heap.size → w'.cell? ⟨G, o, none⟩ = w.cell? ⟨G, o, none⟩)
    (hn : w'.heap[G]? = some (.cells cur e (0, 0))) (h1 : w'.os = w.os) (h2 : w'.tape = w.tape) (h3 : w'.output = w.output) (hc : n + m ≤ cap) (hm : cap ≤ maxLen) (hz : cur.size = cap * sz) :
    Stp w s g [(k, .row e sz n)] w' (fun B o => s B o ∨ (B = G ∧ o < (n + m) * sz)) (g.setRow k (n + m) v') [(k, .row e sz (n + m))] := by
  have hok := hg.one
  obtain ⟨hno, u, hu, hcase⟩ := hok
  rw [hv] at hu; cases hu
  have hblk : v.ownBlock = some G → ∀ o, n * sz ≤ o → ¬ s G o := by
    intro hvb
    rcases hcase with ⟨rfl, _⟩ | ⟨G', cap', cur', rfl, _, _, _, _, hst⟩
    · cases hvb
    · have : G' = G := by simpa [Value.ownBlock] using hvb
      subst this; exact hst
  have hGs : ∀ o, s G o → o < n * sz ∧ G < w.heap.size := by
    intro o hso
    have hl := hg.lt _ _ hso
    refine ⟨?_, hl⟩
    rcases hG with hG | hG
    · rcases Nat.lt_or_ge o (n * sz) with h | h
      · exact h
      · exact absurd hso (hblk hG o h)
    · omega
  refine ⟨⟨fun _ _ h => .inl h, fun b o h => ?_⟩, fun B o h => ?_, ⟨fun _ _ h => h, fun j i x h => ?_⟩, fun j h => ⟨rfl, fun i => ?_⟩, h1, h2, h3, hs, fun N hN hne => ?_, fun B o h => ?_, fun j c h => ?_, fun j c N h hN => ?_, fun j j' c c' N h h' hne => ?_, fun j c h => ?_⟩
  · by_cases hbG : b = G
    · subst hbG
      obtain ⟨h4, h5⟩ := hGs o h
      exact hold o h4 h5
    · exact cell_block (hb b (hg.lt b o h) hbG)
  · rcases h with h | ⟨rfl, _⟩
    · have := hg.lt B o h; omega
    · exact hlt
  · by_cases hji : j = k ∧ i = n + m
    · obtain ⟨rfl, rfl⟩ := hji
      rw [Gh.setRow_eq]
      rcases Nat.eq_zero_or_pos m with hm0 | hm0
      · rw [h0 hm0]
        subst hm0
        rw [Nat.add_zero, hv] at h
        exact h
      · rw [hno _ (by omega)] at h; cases h
    · rw [Gh.setRow_ne _ _ hji]; exact h
  · have hjk : j ≠ k := by
      rintro rfl
      rw [fnd_cons] at h; simp at h
    exact Gh.setRow_ne _ _ (fun e => hjk e.1)
  · have hNG : N ≠ G := by
      rintro rfl
      rcases hG with hG | hG
      · exact hne k (.row e sz n) (by rw [fnd_cons]; simp) (by rw [blk_row hv]; exact hG)
      · omega
    exact hb N hN hNG
  · rcases h with h | ⟨rfl, _⟩
    · exact .inl h
    · rcases hG with hG | hG
      · exact .inr (.inr ⟨k, .row e sz n, by rw [fnd_cons]; simp, by rw [blk_row hv]; exact hG⟩)
      · exact .inr (.inl (by omega))
  · obtain ⟨rfl, rfl⟩ := Own.row_one h
    refine ⟨fun i hi => by rw [Gh.setRow_ne _ _ (by omega)]; exact hno i (by omega), v', Gh.setRow_eq _ _ _ _, .inr ⟨G, cap, cur, hv', hn, hc, hm, hz, fun o ho hso => ?_⟩⟩
    rcases hso with hso | ⟨_, hso⟩
    · have := (hGs o hso).1
      have : n * sz ≤ (n + m) * sz := Nat.mul_le_mul_right _ (by omega)
      omega
    · omega
  · obtain ⟨rfl, rfl⟩ := Own.row_one h
    rw [blk_row (Gh.setRow_eq _ _ _ _), hv'] at hN
    have hN' : G = N := by simpa [Value.ownBlock] using hN
    subst hN'
    rcases hG with hG | hG
    · exact .inr ⟨j, .row e sz n, by rw [fnd_cons]; simp, by rw [blk_row hv]; exact hG⟩
    · exact .inl (by omega)
  · obtain ⟨rfl, rfl⟩ := Own.row_one h
    obtain ⟨rfl, rfl⟩ := Own.row_one h'
    exact absurd rfl hne
  · obtain ⟨rfl, rfl⟩ := Own.row_one h
    exact ⟨.row e sz (n + m), by rw [fnd_cons]; simp⟩
section
variable {P : Program}
theorem append_core {t e ty : TypeId} {sz : Nat} (hA : AppT P t e sz) {w : World} {s : Sb} {g : Gh} {k n m : Nat} {rows rows2 : List (List PV)} {v x : Value} (hg : Good w s g [(k, .row e sz n)] [(k, .row e sz (n + m))]) (hv : g.gn k n = some v)
    (hP : (PV.sl sz rows).p w s v) (hn : rows.length = n) (hx : (PV.sl sz rows2).p w s x) (hm : rows2.length = m) (hb : n + m ≤ 1073741824) :
    ∃ v' w' s' g', (Builtin.append_ #[t, t] ty #[v, x]).run P w = .ok v' w' ∧ Stp w s g [(k, .row e sz n)] w' s' g' [(k, .row e sz (n + m))] ∧ (PV.sl sz (rows ++ rows2)).p w' s' v' ∧ g'.gn k (n + m) = some v' := by
  subst hn
  subst hm
  obtain ⟨ie, z, ht, hi, hz, hsz, hzs, hpos, hby, hby2⟩ := hA.h
  subst hsz
  have hg' := hg
  obtain ⟨hno, u, hu, hcase⟩ := hg.one
  rw [hv] at hu; cases hu
  obtain ⟨a1, c1, xs, ex, hxl, hx1, hxr, hxp⟩ := PV.sl_src hx
  obtain ⟨_, c0, olds, ev, hol, ho1, hor, hop⟩ := PV.sl_src hP
  subst ex
  have hbytes : (rows.length + rows2.length) * ie.bytes ≤ 140737488355328 := Nat.le_trans (Nat.mul_le_mul hb hby2) (by decide)
  have hlen : (rows ++ rows2).length = rows.length + rows2.length := by simp
  have hrz : ∀ row ∈ rows ++ rows2, row.length = ie.size := by
    obtain ⟨_, _, _, _, _, h4, _⟩ := hP
    obtain ⟨_, _, _, _, _, h4', _⟩ := hx
    intro row hr
    rcases List.mem_append.1 hr with h | h
    · exact h4 row h
    · exact h4' row h
  rcases Nat.eq_zero_or_pos rows2.length with hm0 | hm0
  · -- nothing to append
    have hr2 : rows2 = [] := List.eq_nil_of_length_eq_zero hm0
    subst hr2
    have hst : Stp w s g [(k, .row e ie.size rows.length)] w s g [(k, .row e ie.size (rows.length + ([] : List (List PV)).length))] := by
      simp only [List.length_nil, Nat.add_zero]
      exact Stp.read ⟨hg.lt, hg.ok, hg.sep, (fun k c h1 h2 => by rw [h1] at h2; cases h2), hg.gl⟩
    refine ⟨v, w, s, g, ?_, hst, by simpa using hP, by simpa using hv⟩
    rcases hcase with ⟨rfl, h0⟩ | ⟨G, cap, cur, rfl, hG, hnc, hcm, hcs, hstb⟩
    · have h0' : rows.length = 0 := h0
      cases a1 <;> simp [Builtin.append_, run_underlying ht, sizeOf, typeInfo, hi, Builtin.lenOf, Builtin.firstCells, loadCells, loadCellsFrom]
    · cases a1 <;> simp [Builtin.append_, run_underlying ht, sizeOf, typeInfo, hi, Builtin.lenOf, Builtin.firstCells, loadCells, loadCellsFrom, hnc, storeCells]
  · obtain ⟨b2, off2, ea, hra⟩ := hxr hm0
    subst ea
    have hnews : ∀ j u, xs[j]? = some u → w.cell? ((⟨b2, off2, none⟩ : Addr).add j) = some u := fun j u hj => by rw [Addr.add_mid]; exact hra j u hj
    have grown : ∀ (old : Nat), rows.length ≤ old ∨ v = .slice none 0 0 → old < rows.length + rows2.length → (Builtin.append_ #[t, t] ty #[v, .slice (some ⟨b2, off2, none⟩) rows2.length c1]).run P w =
        .ok (.slice (some ⟨w.heap.size, 0, none⟩) (rows.length + rows2.length) (grownCap w (rows.length + rows2.length) old e)) (w.drew.alloc (.cells (olds.toArray ++ xs.toArray ++ Builtin.zeroCells z.cells (grownCap w (rows.length + rows2.length) old e - (rows.length + rows2.length))) e)) →
        ∃ v' w' s' g', (Builtin.append_ #[t, t] ty #[v, .slice (some ⟨b2, off2, none⟩) rows2.length c1]).run P w = .ok v' w' ∧ Stp w s g [(k, .row e ie.size rows.length)] w' s' g' [(k, .row e ie.size (rows.length + rows2.length))] ∧ (PV.sl ie.size (rows ++ rows2)).p w' s' v' ∧ g'.gn k (rows.length + rows2.length) = some v' := by
      intro old _ hold hr
      have hge := grownCap_ge w (rows.length + rows2.length) old e
      have hcm : grownCap w (rows.length + rows2.length) old e ≤ maxLen := grownCap_le_maxLen w _ old e (by simp only [maxLen]; omega)
      generalize grownCap w (rows.length + rows2.length) old e = gc at *
      have hcur : (olds.toArray ++ xs.toArray ++ Builtin.zeroCells z.cells (gc - (rows.length + rows2.length))).size = gc * ie.size := by
        simp only [Array.size_append, List.size_toArray, size_zeroCells, hzs, hol, hxl, ← Nat.add_mul]
        congr 1; omega
      have hst := Stp.moreRow (w := w) (w' := w.drew.alloc (.cells (olds.toArray ++ xs.toArray ++ Builtin.zeroCells z.cells (gc - (rows.length + rows2.length))) e)) hg hv (fun h => by omega) (v' := .slice (some ⟨w.heap.size, 0, none⟩) (rows.length + rows2.length) gc) rfl (.inr rfl) (by simp) (by simp)
        (fun N hN _ => heap_alloc_old w.drew _ hN) (fun o _ h => absurd h (by omega)) (heap_alloc_new w.drew _) rfl rfl rfl hge hcm hcur
      refine ⟨_, _, _, _, hr, hst, ?_, Gh.setRow_eq _ _ _ _⟩
      have hfin := PV.sl_block (w := w.drew.alloc (.cells (olds.toArray ++ xs.toArray ++ Builtin.zeroCells z.cells (gc - (rows.length + rows2.length))) e)) (s := fun B o => s B o ∨ (B = w.heap.size ∧ o < (rows.length + rows2.length) * ie.size)) (G := w.heap.size) (cap := gc) (rows := rows ++ rows2) (vs := olds ++ xs) hrz (by simp [hol, hxl, Nat.add_mul]) (by rw [hlen]; exact hge) hcm
        (fun j u hj => by
          rw [cell_of_row _ w.heap.size j _ e (0, 0) (heap_alloc_new w.drew _)]
          have hj' : j < (olds ++ xs).length := (List.getElem?_eq_some_iff.1 hj).1
          rw [Array.getElem?_append_left (by simpa using hj')]
          simpa using hj)
        (fun o ho => by rw [hlen] at ho; exact .inr ⟨rfl, ho⟩)
        (fun v hv => by
          rcases List.mem_append.1 hv with h | h
          · exact ho1 v h
          · exact hx1 v h)
        (fun i row j d hi' hj => by
          have hjz : j < ie.size := by
            have h1 := (List.getElem?_eq_some_iff.1 hj).1
            rw [hrz row (List.mem_of_getElem? hi')] at h1; exact h1
          rcases Nat.lt_or_ge i rows.length with hlt | hge2
          · rw [List.getElem?_append_left hlt] at hi'
            obtain ⟨u, h1, h2⟩ := hop i row j d hi' hj
            have h3 := (List.getElem?_eq_some_iff.1 h1).1
            exact ⟨u, by rw [List.getElem?_append_left h3]; exact h1, d.mono _ _ _ _ u hst.ex h2⟩
          · rw [List.getElem?_append_right hge2] at hi'
            obtain ⟨u, h1, h2⟩ := hxp _ row j d hi' hj
            refine ⟨u, ?_, d.mono _ _ _ _ u hst.ex h2⟩
            have e1 : i * ie.size + j - olds.length = (i - rows.length) * ie.size + j := by
              rw [hol, Nat.sub_mul]
              have := Nat.mul_le_mul_right ie.size hge2
              omega
            rw [List.getElem?_append_right (by rw [hol]; have := Nat.mul_le_mul_right ie.size hge2; omega), e1]
            exact h1)
      rw [hlen] at hfin
      exact hfin
    rcases hcase with ⟨rfl, h0⟩ | ⟨G, cap, cur, rfl, hG, hnc, hcm, hcs, hstb⟩
    · have hr0 : rows = [] := List.eq_nil_of_length_eq_zero h0
      subst hr0
      have ho0 : olds = [] := List.eq_nil_of_length_eq_zero (by simpa using hol)
      subst ho0
      have hr := run_append_nil (P := P) w t ty e ie z ht hi hz ⟨b2, off2, none⟩ rows2.length c1 xs hxl hnews hm0 (by omega) (by have := hbytes; simp only [List.length_nil, Nat.zero_add] at this; omega)
      refine grown 0 (.inr rfl) (by simpa using hm0) ?_
      simpa using hr
    · obtain ⟨hb0, off0, e0, hro⟩ : ∃ b off, (some (⟨G, 0, none⟩ : Addr)) = some ⟨b, off, none⟩ ∧ (0 < rows.length → w.rangeAt b off olds) := by
        refine ⟨G, 0, rfl, fun h => ?_⟩
        obtain ⟨b, off, e1, h2⟩ := hor h
        cases ev
        cases e1
        exact h2
      cases e0
      have holds : ∀ j u, olds[j]? = some u → w.cell? ((⟨G, 0, none⟩ : Addr).add j) = some u := fun j u hj => by
        have h0 : 0 < rows.length := by
          rcases Nat.eq_zero_or_pos rows.length with h | h
          · have := (List.getElem?_eq_some_iff.1 hj).1
            rw [hol, h] at this; simp at this
          · exact h
        rw [Addr.add_mid]; exact hro h0 j u hj
      by_cases hroom : rows.length + rows2.length ≤ cap
      · have hfit : rows.length * ie.size + xs.length ≤ cur.size := by rw [hxl, hcs, ← Nat.add_mul]; exact Nat.mul_le_mul_right _ hroom
        have hr := run_append_room (P := P) w t ty e ie ht hi G rows.length cap cur hG ⟨b2, off2, none⟩ rows2.length c1 xs hxl hnews hx1 hroom hfit
        have hGl : G < w.heap.size := (Array.getElem?_eq_some_iff.1 hG).1
        have hrow := setRow_heap w G cur (cur.toList.take (rows.length * ie.size) ++ xs ++ cur.toList.drop (rows.length * ie.size + xs.length)).toArray e (0, 0) hG
        have hcl : rows.length * ie.size ≤ cur.toList.length := by simp; omega
        have hcelln : ∀ j, (w.setRow G (cur.toList.take (rows.length * ie.size) ++ xs ++ cur.toList.drop (rows.length * ie.size + xs.length)).toArray).cell? ⟨G, j, none⟩ = (cur.toList.take (rows.length * ie.size) ++ xs ++ cur.toList.drop (rows.length * ie.size + xs.length))[j]? := fun j => by
          rw [cell_of_row _ G j _ e (0, 0) hrow]; simp
        have hcello : ∀ j, j < rows.length * ie.size → (w.setRow G (cur.toList.take (rows.length * ie.size) ++ xs ++ cur.toList.drop (rows.length * ie.size + xs.length)).toArray).cell? ⟨G, j, none⟩ = w.cell? ⟨G, j, none⟩ := fun j hj => by
          rw [hcelln, cell_of_row w G j cur e (0, 0) hG, List.append_assoc, List.getElem?_append_left (by rw [List.length_take]; omega), List.getElem?_take, if_pos hj]
          simp
        have hst := Stp.moreRow (w := w) hg hv (fun h => by omega) (v' := .slice (some ⟨G, 0, none⟩) (rows.length + rows2.length) cap) rfl (.inl rfl) (by simpa using hGl) (by simp)
          (fun N _ hN => setRow_other w G N _ hN) (fun o ho _ => hcello o ho) hrow rfl rfl rfl hroom hcm (by
            simp only [List.size_toArray, List.length_append, List.length_take, List.length_drop, Array.length_toList]
            omega)
        refine ⟨_, _, _, _, hr, hst, ?_, Gh.setRow_eq _ _ _ _⟩
        have hfin := PV.sl_block (w := w.setRow G (cur.toList.take (rows.length * ie.size) ++ xs ++ cur.toList.drop (rows.length * ie.size + xs.length)).toArray) (s := fun B o => s B o ∨ (B = G ∧ o < (rows.length + rows2.length) * ie.size)) (G := G) (cap := cap) (rows := rows ++ rows2) (vs := olds ++ xs) hrz (by simp [hol, hxl, Nat.add_mul]) (by rw [hlen]; exact hroom) hcm
          (fun j u hj => by
            rcases Nat.lt_or_ge j olds.length with hlt | hge2
            · rw [List.getElem?_append_left hlt] at hj
              rw [hcello j (by omega)]
              have := holds j u hj
              rw [Addr.add_mid] at this
              simpa using this
            · rw [List.getElem?_append_right hge2] at hj
              rw [hcelln, List.append_assoc, List.getElem?_append_right (by rw [List.length_take]; omega)]
              have e1 : j - (cur.toList.take (rows.length * ie.size)).length = j - olds.length := by rw [List.length_take, hol]; congr 1; omega
              rw [e1, List.getElem?_append_left (List.getElem?_eq_some_iff.1 hj).1]
              exact hj)
          (fun o ho => by rw [hlen] at ho; exact .inr ⟨rfl, ho⟩)
          (fun v hv => by
            rcases List.mem_append.1 hv with h | h
            · exact ho1 v h
            · exact hx1 v h)
          (fun i row j d hi' hj => by
            have hjz : j < ie.size := by
              have h1 := (List.getElem?_eq_some_iff.1 hj).1
              rw [hrz row (List.mem_of_getElem? hi')] at h1; exact h1
            rcases Nat.lt_or_ge i rows.length with hlt | hge2
            · rw [List.getElem?_append_left hlt] at hi'
              obtain ⟨u, h1, h2⟩ := hop i row j d hi' hj
              have h3 := (List.getElem?_eq_some_iff.1 h1).1
              exact ⟨u, by rw [List.getElem?_append_left h3]; exact h1, d.mono _ _ _ _ u hst.ex h2⟩
            · rw [List.getElem?_append_right hge2] at hi'
              obtain ⟨u, h1, h2⟩ := hxp _ row j d hi' hj
              refine ⟨u, ?_, d.mono _ _ _ _ u hst.ex h2⟩
              have e1 : i * ie.size + j - olds.length = (i - rows.length) * ie.size + j := by
                rw [hol, Nat.sub_mul]
                have := Nat.mul_le_mul_right ie.size hge2
                omega
              rw [List.getElem?_append_right (by rw [hol]; have := Nat.mul_le_mul_right ie.size hge2; omega), e1]
              exact h1)
        rw [hlen] at hfin
        exact hfin
      · have hr := run_append_grow (P := P) w t ty e ie z ht hi hz ⟨G, 0, none⟩ rows.length cap olds hol holds ⟨b2, off2, none⟩ rows2.length c1 xs hxl hnews (by omega) (by omega) (growslice_fits (by omega) hbytes)
        exact grown cap (.inl hnc) (by omega) hr
end
end Go.Proofs.YtfkaepjlmgolhaaGreatDoor

/- Abstract execution: appending as an operation; slices of literals as rows of the call's own; least and greatest. Nothing here speaks of the program. -/
namespace Go.Proofs.YtfkaepjlmgolhaaGreatDoor
open Go.RowKit

theorem Stp.thenNew {w w' : World} {s s' : Sb} {g g1 g' : Gh} {k : Nat} {c0 c : Own} (h1 : Stp w s g [] w s g1 [(k, c0)]) (h2 : Stp w s g1 [(k, c0)] w' s' g' [(k, c)]) : Stp w s g [] w' s' g' [(k, c)] := by
  have hone : ∀ {j : Nat} {d e : Own}, fnd j [(k, d)] = some e → j = k ∧ e = d := fun h => fnd_one h
  have hnb : ∀ j d N, fnd j [(k, c0)] = some d → blk g1 j d = some N → w.heap.size ≤ N := fun j d N hd hN => (h1.nb j d N hd hN).elim id fun ⟨_, _, h, _⟩ => by cases h
  refine ⟨h1.ex.trans h2.ex, h2.lt, ⟨fun k N h => h2.gle.bx _ _ (h1.gle.bx _ _ h), fun k m v h => h2.gle.gn _ _ _ (h1.gle.gn _ _ _ h)⟩, fun j h => ?_, h2.os, h2.tape, h2.output, h2.size, fun N hN _ => h2.block N hN fun j d hd hb => ?_, fun B o h => ?_, h2.ok, fun j d N hd hN => ?_, h2.sep, fun _ _ h => by cases h⟩
  · have hjk : fnd j [(k, c0)] = none := by
      rw [fnd_cons] at h ⊢
      by_cases e : k = j
      · simp [e] at h
      · simp [e, fnd]
    obtain ⟨a1, a2⟩ := h1.same j hjk
    obtain ⟨b1, b2⟩ := h2.same j h
    exact ⟨b1.trans a1, fun m => (b2 m).trans (a2 m)⟩
  · have := hnb j d N hd hb; omega
  · rcases h2.st B o h with h | h | ⟨j, d, hd, hb⟩
    · exact .inl h
    · exact .inr (.inl h)
    · exact .inr (.inl (hnb j d B hd hb))
  · rcases h2.nb j d N hd hN with h | ⟨j', d', hd', hb⟩
    · exact .inl h
    · exact .inl (hnb j' d' N hd' hb)
section
variable {P : Program} {tm : List (Nat × TV)} {dst : Option Tmp} {ty : TypeId} {pos : String} {aft : Array Edge} {gd : Option (Nat × Bool)}
theorem append_exec {x y : Operand} {t : TypeId} {a : Act} {w w' : World} {v' : Value} (h : (Builtin.append_ #[t, t] ty #[a.eval x, a.eval y]).run P w = .ok v' w') :
    (execOp a.eval ⟨dst, .call { callee := .builtin .append, args := #[x, y], argTypes := #[t, t] }, ty, pos, aft, gd⟩).run P w = .ok (.value v') w' := by
  simp [execOp, resolve, invoke, builtin, h, Result.andThen]
theorem u_appendOwn {x y : Operand} {t e : TypeId} {sz k n m : Nat} {rows rows2 : List (List PV)} {d : TV} (hA : AppT P t e sz) (hx : Opd tm x (.own k sz rows)) (hn : rows.length = n) (hy : Opd tm y d) (hd : ∀ w s g v, d.P w s g v → (PV.sl sz rows2).p w s v) (hm : rows2.length = m) (hb : n + m ≤ 1073741824) :
    UOp P ⟨dst, .call { callee := .builtin .append, args := #[x, y], argTypes := #[t, t] }, ty, pos, aft, gd⟩ tm [(k, .row e sz n)] (.own k sz (rows ++ rows2)) [(k, .row e sz (n + m))] := by
  intro w s g a K Q ht hg hK
  have h1 := Opd.eval ht hx
  rw [TV.P] at h1
  obtain ⟨v', w', s', g', hr, hst, hp, hgn⟩ := append_core (ty := ty) hA hg (by rw [← hn]; exact h1.2) h1.1 hn (hd _ _ _ _ (Opd.eval ht hy)) hm hb
  unfold Oper.wp
  rw [append_exec hr]
  refine hK w' s' g' v' ?_ hst
  rw [TV.P]
  exact ⟨hp, by rw [List.length_append, hn, hm]; exact hgn⟩
theorem PV.sl_nil {w : World} {s : Sb} {sz : Nat} : (PV.sl sz []).p w s (.slice none 0 0) := ⟨none, 0, rfl, Nat.le_refl _, by omega, (fun _ h => by cases h), (fun i row h => by simp at h)⟩
theorem u_appendNil {x y : Operand} {t e : TypeId} {sz m : Nat} (k : Nat) {rows2 : List (List PV)} {d : TV} (hA : AppT P t e sz) (hx : Opd tm x (.pv (PV.lit (.slice none 0 0)))) (hy : Opd tm y d) (hd : ∀ w s g v, d.P w s g v → (PV.sl sz rows2).p w s v) (hm : rows2.length = m) (hb : m ≤ 1073741824) :
    UOp P ⟨dst, .call { callee := .builtin .append, args := #[x, y], argTypes := #[t, t] }, ty, pos, aft, gd⟩ tm [] (.own k sz rows2) [(k, .row e sz m)] := by
  intro w s g a K Q ht hg hK
  have h1 := Opd.lit ht hx
  have hfr := hg.fr k (.row e sz m) (by rw [fnd_cons]; simp) rfl
  have hst0 := Stp.ghostRow (w := w) (s := s) (sz := sz) (e := e) hg.lt hfr
  have hg1 : Good w s (g.setRow k 0 (.slice none 0 0)) [(k, .row e sz 0)] [(k, .row e sz (0 + m))] := ⟨hg.lt, hst0.ok, fun j j' c c' N h1 h2 hne => by
    obtain ⟨rfl, rfl⟩ := fnd_one h1
    obtain ⟨rfl, rfl⟩ := fnd_one h2
    exact absurd rfl hne, (fun j c h1 h2 => by
    obtain ⟨rfl, rfl⟩ := fnd_one h1
    rw [fnd_cons] at h2; simp at h2), hg.gl⟩
  obtain ⟨v', w', s', g', hr, hst, hp, hgn⟩ := append_core (ty := ty) (rows := []) hA hg1 (Gh.setRow_eq _ _ _ _) PV.sl_nil rfl (hd _ _ _ _ (TV.mono (Ex.refl w s) hst0.gle (Opd.eval ht hy))) hm (by omega)
  rw [Nat.zero_add] at hst hgn
  unfold Oper.wp
  rw [append_exec (by rw [h1]; exact hr)]
  refine hK w' s' g' v' ?_ (Stp.thenNew hst0 hst)
  rw [TV.P]
  exact ⟨by simpa using hp, by rw [hm]; exact hgn⟩
theorem u_buildSliceOwn {t e : TypeId} {sz len : Nat} (k : Nat) {parts : List (Nat × Operand)} {rows : List (List PV)} (hA : AppT P t e sz) (hp : RowsOk tm sz 0 parts rows) (hl : len = rows.length) (hs : len * sz ≤ 2 ^ 24) (h0 : 0 < len) :
    UOp P ⟨dst, .buildSlice t len parts.toArray, ty, pos, aft, gd⟩ tm [] (.own k sz rows) [(k, .row e sz len)] := by
  intro w s g a K Q ht hg hK
  obtain ⟨ie, z, h1, h2, h3, h4, h5, h6, h7, h8⟩ := hA.h
  subst h4
  subst hl
  have hlp : 0 < rows.length * ie.size := Nat.mul_pos h0 h6
  obtain ⟨vss, g1, g2, g3⟩ := fill_rows (sz := ie.size) ht 0 [] ((Array.range (rows.length * ie.size)).map (z.cells[· % z.cells.size]!)).toList hp (by simp) (by simp)
  have hrl : ∀ (i : Nat) (row : List PV), rows[i]? = some row → row.length = ie.size ∧ ∀ d ∈ row, d.one = true := by
    have aux : ∀ (parts : List (Nat × Operand)) (rows : List (List PV)) (n : Nat), RowsOk tm ie.size n parts rows → ∀ (i : Nat) (row : List PV), rows[i]? = some row → row.length = ie.size ∧ ∀ d ∈ row, d.one = true := by
      intro parts
      induction parts with
      | nil => intro rows n h i row hr; cases rows with | nil => simp at hr | cons _ _ => exact h.elim
      | cons q parts ih =>
        intro rows n h i row hr
        cases rows with
        | nil => simp at hr
        | cons r rows =>
          obtain ⟨_, _, e3, e5, e4⟩ := h
          match i, hr with
          | 0, hr => simp at hr; subst hr; exact ⟨e3, e5⟩
          | i + 1, hr => exact ih rows (n + 1) e4 i row (by simpa using hr)
    exact aux parts rows 0 hp
  have hr := run_buildSlice (P := P) w t e rows.length (parts.toArray.map fun (i, x) => (i, a.eval x)) (vss.flatten).toArray ie z h1 h2 h3 (by omega) (by omega) (by
    simp only [List.nil_append, Array.toArray_toList] at g3
    rw [← g3]
    simp)
  have hall : ∀ x ∈ vss, x.length = ie.size := by
    intro x hx
    obtain ⟨m, hm⟩ := List.getElem?_of_mem hx
    have hm' : m < rows.length := by rw [← g1]; exact (List.getElem?_eq_some_iff.1 hm).1
    rw [(g2 m _ x (List.getElem?_eq_getElem hm') hm).length]
    exact (hrl m _ (List.getElem?_eq_getElem hm')).1
  have hfl : ∀ (l : List (List Value)), (∀ x ∈ l, x.length = ie.size) → l.flatten.length = l.length * ie.size := by
    intro l
    induction l with
    | nil => intro _; simp
    | cons x l ih => intro h; rw [List.flatten_cons, List.length_append, ih fun y hy => h y (by simp [hy]), h x (by simp), List.length_cons, Nat.add_mul]; omega
  have hfl' : vss.flatten.length = rows.length * ie.size := by rw [hfl vss hall, g1]
  have hlm : rows.length ≤ maxLen := by
    have : rows.length * 1 ≤ rows.length * ie.size := Nat.mul_le_mul_left _ h6
    simp only [maxLen]; omega
  unfold Oper.wp
  have he : (execOp a.eval ⟨dst, .buildSlice t rows.length parts.toArray, ty, pos, aft, gd⟩).run P w = .ok (.value (.slice (some ⟨w.heap.size, 0, none⟩) rows.length rows.length)) (w.alloc (.cells vss.flatten.toArray e)) := exec_value hr
  rw [he]
  have hfr := hg.fr k (.row e ie.size rows.length) (by rw [fnd_cons]; simp) rfl
  have hst := Stp.newRow (w := w) (w' := w.alloc (.cells vss.flatten.toArray e)) (sz := ie.size) (len := rows.length) (cap := rows.length) (e := e) (cur := vss.flatten.toArray) hg.lt hfr (by simp) (fun N hN => Below.heap_alloc w _ N hN) (heap_alloc_new w _) rfl rfl rfl (Nat.le_refl _) hlm (by simp only [List.size_toArray]; exact hfl')
  refine hK _ _ _ _ ?_ hst
  rw [TV.P]
  refine ⟨PV.sl_block (vs := vss.flatten) (fun row hrow => ?_) hfl' (Nat.le_refl _) hlm (fun j u hj => ?_) (fun o ho => .inr ⟨rfl, ho⟩) (fun v hv => ?_) (fun i row j d hi hj => ?_), Gh.setRow_eq _ _ _ _⟩
  · obtain ⟨i, hi⟩ := List.getElem?_of_mem hrow
    exact (hrl i row hi).1
  · rw [cell_of_row _ w.heap.size _ _ e (0, 0) (heap_alloc_new w _)]
    simpa using hj
  · obtain ⟨vs, h9, h10⟩ := List.mem_flatten.1 hv
    obtain ⟨i, hi⟩ := List.getElem?_of_mem h9
    have hi' : i < rows.length := by rw [← g1]; exact (List.getElem?_eq_some_iff.1 hi).1
    have hav := g2 i _ vs (List.getElem?_eq_getElem hi') hi
    exact hav.toArr (hrl i _ (List.getElem?_eq_getElem hi')).2 v h10
  · have hi' : i < vss.length := by rw [g1]; exact (List.getElem?_eq_some_iff.1 hi).1
    obtain ⟨v, h9, h10⟩ := (g2 i row _ hi (List.getElem?_eq_getElem hi')).get hj
    exact ⟨v, flat_get hall (List.getElem?_eq_getElem hi') h9, d.mono _ _ _ _ v hst.ex h10⟩
theorem u_min {x y : Operand} {k : IntKind} {n m : Int} {ts : Array TypeId} (hx : Opd tm x (.pv (PV.lit (.int k n)))) (hy : Opd tm y (.pv (PV.lit (.int k m)))) :
    UOp P ⟨dst, .call { callee := .builtin .min, args := #[x, y], argTypes := ts }, ty, pos, aft, gd⟩ tm [] (.pv (PV.lit (.int k (if m < n then m else n)))) [] :=
  UOp.pure fun w s g a ht => ⟨_, by simp [execOp, resolve, invoke, builtin, Opd.lit ht hx, Opd.lit ht hy, Builtin.min_, Builtin.min2], rfl⟩
theorem u_max {x y : Operand} {k : IntKind} {n m : Int} {ts : Array TypeId} (hx : Opd tm x (.pv (PV.lit (.int k n)))) (hy : Opd tm y (.pv (PV.lit (.int k m)))) :
    UOp P ⟨dst, .call { callee := .builtin .max, args := #[x, y], argTypes := ts }, ty, pos, aft, gd⟩ tm [] (.pv (PV.lit (.int k (if n < m then m else n)))) [] :=
  UOp.pure fun w s g a ht => ⟨_, by simp [execOp, resolve, invoke, builtin, Opd.lit ht hx, Opd.lit ht hy, Builtin.max_, Builtin.max2], rfl⟩
theorem u_max3 {x y q : Operand} {k : IntKind} {n m r : Int} {ts : Array TypeId} (hx : Opd tm x (.pv (PV.lit (.int k n)))) (hy : Opd tm y (.pv (PV.lit (.int k m)))) (hq : Opd tm q (.pv (PV.lit (.int k r)))) :
    UOp P ⟨dst, .call { callee := .builtin .max, args := #[x, y, q], argTypes := ts }, ty, pos, aft, gd⟩ tm [] (.pv (PV.lit (.int k (if (if n < m then m else n) < r then r else (if n < m then m else n))))) [] :=
  UOp.pure fun w s g a ht => ⟨_, by simp [execOp, resolve, invoke, builtin, Opd.lit ht hx, Opd.lit ht hy, Opd.lit ht hq, Builtin.max_, Builtin.max2], rfl⟩
end
end Go.Proofs.YtfkaepjlmgolhaaGreatDoor

/- Abstract execution: a field of a struct, quotients, shifts, an empty row of the call's own, a call that leaves a row to its caller. Nothing here speaks of the program. -/
namespace Go.Proofs.YtfkaepjlmgolhaaGreatDoor
open Go.RowKit

structure PartT (P : Program) (t : TypeId) (i : Nat) (ft : TypeId) (off : Nat) : Prop where
  h : ∃ fs f, P.underlying t = some (.struct fs) ∧ fs[i]? = some f ∧ f.type = ft ∧ f.offset = off
theorem isAgg_one {P : Program} {t : TypeId} (h : OneT P t) (w : World) : (isAgg t).run P w = .ok false w := by
  obtain ⟨d, hu, hd⟩ := h.und
  unfold isAgg
  rw [Sem.run_bind, run_underlying hu w]
  cases d <;> simp_all
theorem isAgg_row {P : Program} {t : TypeId} {n : Nat} (h : RowT P t n) (w : World) : (isAgg t).run P w = .ok true w := by
  obtain ⟨d, hu, hd⟩ := h.und
  unfold isAgg
  rw [Sem.run_bind, run_underlying hu w]
  cases d <;> simp_all
section
variable {P : Program} {tm : List (Nat × TV)} {dst : Option Tmp} {ty : TypeId} {pos : String} {aft : Array Edge} {gd : Option (Nat × Bool)}
theorem u_field1 {x : Operand} {t ft : TypeId} {i off : Nat} {l : List TV} {d : TV} (hF : PartT P t i ft off) (h1 : OneT P ft) (hx : Opd tm x (.agg l)) (hd : l[off]? = some d) : UOp P ⟨dst, .field t x i, ty, pos, aft, gd⟩ tm [] d [] :=
  UOp.pure fun w s g a ht => by
    obtain ⟨vs, h2, h3⟩ := Opd.eval ht hx
    obtain ⟨fs, f, h4, h5, h6, h7⟩ := hF.h
    obtain ⟨v, h8, h9⟩ := h3.get hd
    refine ⟨v, exec_value (s := Instr.field t (a.eval x) i) ?_, h9⟩
    simp [Instr.field, run_underlying h4, h2, h5, asAgg, part, h6, h7, isAgg_one h1, h8]
theorem u_fieldR {x : Operand} {t ft : TypeId} {i off n : Nat} {l : List TV} (hF : PartT P t i ft off) (h1 : RowT P ft n) (hx : Opd tm x (.agg l)) (hl : off + n ≤ l.length) : UOp P ⟨dst, .field t x i, ty, pos, aft, gd⟩ tm [] (.agg ((l.drop off).take n)) [] :=
  UOp.pure fun w s g a ht => by
    obtain ⟨vs, h2, h3⟩ := Opd.eval ht hx
    obtain ⟨fs, f, h4, h5, h6, h7⟩ := hF.h
    refine ⟨.agg ((vs.drop off).take n).toArray, exec_value (s := Instr.field t (a.eval x) i) ?_, _, rfl, (h3.drop off).take n⟩
    simp [Instr.field, run_underlying h4, h2, h5, asAgg, part, h6, h7, isAgg_row h1, sizeOf_run h1.size]
theorem u_quo {x y : Operand} {t u : TypeId} {k : IntKind} {n m : Int} (hx : Opd tm x (.pv (PV.lit (.int k n)))) (hy : Opd tm y (.pv (PV.lit (.int k m)))) (hm : m ≠ 0) : UOp P ⟨dst, .binOp .quo t x y u, ty, pos, aft, gd⟩ tm [] (.pv (PV.lit (.int k (k.wrap (n.tdiv m))))) [] :=
  UOp.two hx hy fun ρ w h1 h2 => by simp [execOp, h1, h2, go_sem, hm]
theorem u_rem {x y : Operand} {t u : TypeId} {k : IntKind} {n m : Int} (hx : Opd tm x (.pv (PV.lit (.int k n)))) (hy : Opd tm y (.pv (PV.lit (.int k m)))) (hm : m ≠ 0) : UOp P ⟨dst, .binOp .rem t x y u, ty, pos, aft, gd⟩ tm [] (.pv (PV.lit (.int k (n.tmod m)))) [] :=
  UOp.two hx hy fun ρ w h1 h2 => by simp [execOp, h1, h2, go_sem, hm]
theorem u_shr {x y : Operand} {t u : TypeId} {k k' : IntKind} {n m : Int} (hx : Opd tm x (.pv (PV.lit (.int k n)))) (hy : Opd tm y (.pv (PV.lit (.int k' m)))) (hm : 0 ≤ m) : UOp P ⟨dst, .binOp .shr t x y u, ty, pos, aft, gd⟩ tm [] (.pv (PV.lit (.int k (n.fdiv (2 ^ (min m.toNat k.bits)))))) [] :=
  UOp.two hx hy fun ρ w h1 h2 => by
    have : ¬ m < 0 := by omega
    simp [execOp, h1, h2, go_sem, this, Op.shift]
theorem u_buildSliceOwn0 {t e : TypeId} {sz : Nat} (k : Nat) (hA : AppT P t e sz) : UOp P ⟨dst, .buildSlice t 0 #[], ty, pos, aft, gd⟩ tm [] (.own k sz []) [(k, .row e sz 0)] := by
  intro w s g a K Q ht hg hK
  obtain ⟨ie, z, h1, h2, h3, h4, h5, h6, h7, h8⟩ := hA.h
  have er : ∀ f : Nat → Value, Array.map f (Array.range 0) = #[] := fun f => Array.eq_empty_of_size_eq_zero (by simp)
  have he : (execOp a.eval ⟨dst, .buildSlice t 0 #[], ty, pos, aft, gd⟩).run P w = .ok (.value (.slice (some ⟨w.heap.size, 0, none⟩) 0 0)) (w.alloc (.cells #[] e)) :=
    exec_value (s := Instr.buildSlice t 0 _) (by simp [Instr.buildSlice, run_underlying h1, sizeOf, typeInfo, h2, Instr.fill, newRow, er])
  unfold Oper.wp
  rw [he]
  have hfr := hg.fr k (.row e sz 0) (by rw [fnd_cons]; simp) rfl
  have hst := Stp.newRow (w := w) (w' := w.alloc (.cells #[] e)) (sz := sz) (len := 0) (cap := 0) (e := e) (cur := #[]) hg.lt hfr (by simp) (fun N hN => Below.heap_alloc w _ N hN) (heap_alloc_new w _) rfl rfl rfl (Nat.le_refl _) (Nat.zero_le _) (by simp)
  refine hK _ _ _ _ ?_ hst
  rw [TV.P]
  exact ⟨⟨_, 0, rfl, Nat.le_refl _, by omega, (fun _ h => by cases h), (fun i row h => by simp at h)⟩, Gh.setRow_eq _ _ _ _⟩
/-- A contract of a function whose result is a row that nothing else holds. -/
structure OFun (P : Program) (f : FuncId) (args : List PV) (e : TypeId) (sz : Nat) (rows : List (List PV)) : Prop where
  bod : Bod P f
  run : ∀ (w : World) (s : Sb) (vs : List Value), (∀ B o, s B o → B < w.heap.size) → Glb w s → AllV w s args vs → Calls P f vs.toArray w fun r w' => ∃ s' g' k v, r = .returned v ∧ (TV.own k sz rows).P w' s' g' v ∧ Ok1 w' s' g' k (.row e sz rows.length) ∧ (∀ N, blk g' k (.row e sz rows.length) = some N → w.heap.size ≤ N) ∧ PStp w s w' s'
theorem u_callO {f : FuncId} {xs : List Operand} {ts : Array TypeId} {args : List PV} {e : TypeId} {sz : Nat} {rows : List (List PV)} (k : Nat) (hF : OFun P f args e sz rows) (ha : ArgsOk tm xs args) :
    UOp P ⟨dst, .call { callee := .value (.func f), args := xs.toArray, argTypes := ts }, ty, pos, aft, gd⟩ tm [] (.own k sz rows) [(k, .row e sz rows.length)] := by
  intro w s g a K Q ht hg hK
  have h1 := ha.all ht
  have he : (execOp a.eval ⟨dst, .call { callee := .value (.func f), args := xs.toArray, argTypes := ts }, ty, pos, aft, gd⟩).run P w = .ok (.enter f (xs.map a.eval).toArray) w := by
    have hev : a.eval (.func f) = .func (.func f) #[] #[] := rfl
    simp only [execOp, resolve, hev, Deferred.ofValue, Sem.run_bind, Sem.run_pure, Result.andThen_ok, invoke]
    simpa using callFunc_run hF.bod _ w
  unfold Oper.wp
  rw [he]
  have hfr := hg.fr k (.row e sz rows.length) (by rw [fnd_cons]; simp) rfl
  refine (hF.run w s _ hg.lt hg.gl h1).mono ?_
  rintro r w' ⟨s', g', k', v, rfl, hv, ho, hN, hp⟩
  rw [TV.P] at hv
  obtain ⟨h2, v0, h3, h4⟩ := ho
  have hv0 : v0 = v := by have := h3.symm.trans hv.2; cases this; rfl
  subst hv0
  have hbl : blk (g.setRow k rows.length v0) k (.row e sz rows.length) = blk g' k' (.row e sz rows.length) := by
    rw [blk_row (Gh.setRow_eq _ _ _ _), blk_row h3]
  refine hK w' s' (g.setRow k rows.length v0) v0 ?_ ⟨hp.ex, hp.lt, ⟨fun _ _ h => h, fun j m u h => ?_⟩, fun j h => ⟨rfl, fun m => ?_⟩, hp.os, hp.tape, hp.output, hp.size, fun N hN _ => hp.block N hN, fun B o hs => (hp.st B o hs).elim .inl fun x => .inr (.inl x), fun j c h => ?_, fun j c N h hb => ?_, fun j j' c c' N h h' hne => ?_, fun _ _ h => by cases h⟩
  · rw [TV.P]; exact ⟨hv.1, Gh.setRow_eq _ _ _ _⟩
  · by_cases e1 : j = k ∧ m = rows.length
    · rw [e1.1, hfr.2] at h; cases h
    · rw [Gh.setRow_ne _ _ e1]; exact h
  · refine Gh.setRow_ne _ _ fun e1 => ?_
    rw [fnd_cons] at h
    simp [e1.1] at h
  · obtain ⟨rfl, rfl⟩ := Own.row_one h
    refine ⟨fun m hm => ?_, v0, Gh.setRow_eq _ _ _ _, h4⟩
    rw [Gh.setRow_ne _ _ (by omega)]; exact hfr.2 m
  · obtain ⟨rfl, rfl⟩ := Own.row_one h
    rw [hbl] at hb
    exact .inl (hN N hb)
  · obtain ⟨rfl, rfl⟩ := Own.row_one h
    obtain ⟨rfl, rfl⟩ := Own.row_one h'
    exact absurd rfl hne
end
end Go.Proofs.YtfkaepjlmgolhaaGreatDoor
