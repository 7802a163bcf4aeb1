/- Part 19 of the proof. -/
import Derived.Test.YtinegkcbkefeiaaGreatDoorM18
import Derived.Shelf.Spec.SlicesGrow
import Derived.Shelf.Strconv.Itoa3
import Derived.Shelf.Strconv.Quote
namespace Go.Proofs.YtinegkcbkefeiaaGreatDoor
open Go.RowKit
variable {md me : Bool}
def kcL : List Int := [2,3,4,5,6,7,0,15,27,2]
def ocL : List Int := [0,8,9,10,11,12,13,14,16,1,0,17,18,19,20,21,22,23,24,25,26]
def ocS (o : Ob) : Int := if o.kind = 10 then o.cls else ocL.getD o.kind.toNat 0
def clA (h : List Ob) (v : Vl) : Int := if v.k = 6 then ocS (yO h v.r) else kcL.getD v.k.toNat 0
theorem voks_k {v : Vl} (h : qG v = true) : 0 ≤ v.k ∧ v.k < 9 := by
 unfold qG at h;repeat' split at h
 all_goals first | omega | cases h
structure Cf (h : List Ob) (v : Vl) : Prop where
 k : 0 ≤ v.k ∧ v.k < 9
 obj : v.k = 6 → jR h v.r = true
 kind : v.k = 6 → 0 < (yO h v.r).kind ∧ (yO h v.r).kind < 21
 cls : v.k = 6 → (yO h v.r).kind = 10 → inH h (yO h v.r).cls
theorem Uh.kind {h : List Ob} (g : Uh h) {n : Int} (hn : jR h n = true) : 0 < (yO h n).kind ∧ (yO h n).kind < 21 := by
 have hi := yV hn;by_cases h49 : n.toNat < 49
 ·rw [show yO h n = bgO n.toNat from g.lo_at h49];exact ⟨by show (0 : Int) < 9;decide,by show (9 : Int) < 21;decide⟩
 ·have h1 := (g.hi_at (by omega) hi.2).kind;have h2 : ¬ (yO h n).kind = 0 := by
   intro h0;simp only [jR,Bool.and_eq_true] at hn;have := hn.2;rw [show (h.getD n.toNat ob0).kind = 0 from h0] at this;exact absurd this (by decide)
  exact ⟨by have := h1.1;show 0 < (yO h n).kind;have h3 : (yO h ((n.toNat : Nat) : Int)).kind = (yO h n).kind := rfl;omega,h1.2⟩
theorem dT0 {h : List Ob} {v : Vl} (g : Uh h) (hh : hasS h v = true) : Cf h v := by
 have hv : qG v = true := by
  simp only [hasS,Bool.and_eq_true] at hh;exact hh.1
 exact ⟨voks_k hv,yB0 hh,fun hk => g.kind (yB0 hh hk),fun hk => g.cls (yV (yB0 hh hk))⟩
theorem ocS_in {h : List Ob} {o : Ob} (g : Uh h) (hk : 0 < o.kind ∧ o.kind < 21) (hc : o.kind = 10 → inH h o.cls) : inH h (ocS o) := by
 unfold ocS;split
 ·rename_i h1;exact hc h1
 ·have h3 := List.all_eq_true.1 (show (List.range 21).all (fun n => decide (0 ≤ ocL.getD n 0 ∧ ocL.getD n 0 < 49)) = true by decide +kernel) o.kind.toNat (List.mem_range.2 (by omega));have h4 := of_decide_eq_true h3;have := g.lo;exact ⟨h4.1,by omega⟩
theorem tL0 {h : List Ob} {v : Vl} (g : Uh h) (c : Cf h v) : inH h (clA h v) := by
 unfold clA;split
 ·rename_i h1;exact ocS_in g (c.kind h1) (c.cls h1)
 ·have h3 := List.all_eq_true.1 (show (List.range 9).all (fun n => decide (0 ≤ kcL.getD n 0 ∧ kcL.getD n 0 < 49)) = true by decide +kernel) v.k.toNat (List.mem_range.2 (by have := c.k;omega));have h4 := of_decide_eq_true h3;have := g.lo;exact ⟨h4.1,by omega⟩
theorem kindClasses_ok  : Fn Tryz.prog 133 [] (isD kcL) := by
 refine yG zL Tryz.func133 rfl rfl rfl rfl rfl rfl ?_;intro w0 s0 mx;refine zJ 100 ?_;refine zJ 200 ?_;refine zM ?_;exact FinV.ret rfl (SubP.slrSl rfl)
theorem objectClasses_ok  : Fn Tryz.prog 134 [] (isD ocL) := by
 refine yG zL Tryz.func134 rfl rfl rfl rfl rfl rfl ?_;intro w0 s0 mx;refine zJ 100 ?_;refine zJ 200 ?_;refine zM ?_;exact FinV.ret rfl (SubP.slrSl rfl)
theorem heapClassOf_ok (h : List Ob) (v : Vl) (c : Cf h v) : Fn Tryz.prog 75 [hpD md h,.agg (vlD v)] (.v (.int .i64 (clA h v))) := by
 refine yG zL Tryz.func75 rfl rfl rfl rfl rfl rfl ?_;intro w0 s0 mx;refine zJ 100 ?_;refine zB (zJ 200 ?_);refine zT rfl (fun c1 => ?_) (fun c1 => ?_)
 ·replace c1 : ¬ v.k = 6 := by have h1 := c1;simp only [Bool.not_eq_true',decide_eq_false_iff_not] at h1;exact h1
  refine zB (yD zL [] [[],[],[1],[0,1,2],[0,1,2,3],(rgN 5)] 300 yU (by kernel_rfl) rfl ?_);repeat (first | refine zG ?_ | refine zH ?_ | refine zU (by exact ⟨c.k.1,by show v.k.toNat < 10;have := c.k;omega⟩) ?_)
  refine zR _ (kindClasses_ok) rfl ?_;repeat (first | refine zG ?_ | refine zH ?_ | refine zU (by exact ⟨c.k.1,by show v.k.toNat < 10;have := c.k;omega⟩) ?_)
  refine zC (zA (zM (zO ?_)));exact FinV.ret rfl (SubP.int (by rw [clA,if_neg c1]))
 ·replace c1 : v.k = 6 := by have h1 := c1;simp only [Bool.not_eq_false',decide_eq_true_eq] at h1;exact h1
  refine zK (zA ?_);refine zB (zE zL [] 400 rfl ?_);repeat (first | refine zG ?_ | refine zH ?_ | refine zU (by exact yV (c.obj c1)) ?_)
  refine zC (zA (zB (zJ 500 ?_)));refine zT rfl (fun c4 => ?_) (fun c4 => ?_)
  ·first | replace c4 := of_decide_eq_true c4 | replace c4 := of_decide_eq_false c4
   refine zJ 600 ?_;refine zM (zO ?_);exact FinV.ret rfl (SubP.int (by rw [clA,if_pos c1,ocS,if_pos c4]))
  ·first | replace c4 := of_decide_eq_true c4 | replace c4 := of_decide_eq_false c4
   refine zK (zA ?_);refine zB (yD zL [] [[],[],[1],[0,1,2],[0,1,2,3],(rgN 5)] 700 yU (by kernel_rfl) rfl ?_);repeat (first | refine zG ?_ | refine zH ?_ | refine zU (by exact ⟨Int.le_of_lt (c.kind c1).1,by show (yO h v.r).kind.toNat < 21;have h1 : 0 < (yO h v.r).kind ∧ (yO h v.r).kind < 21 := c.kind c1;omega⟩) ?_)
   refine zR _ (objectClasses_ok) rfl ?_;repeat (first | refine zG ?_ | refine zH ?_ | refine zU (by exact ⟨Int.le_of_lt (c.kind c1).1,by show (yO h v.r).kind.toNat < 21;have h1 : 0 < (yO h v.r).kind ∧ (yO h v.r).kind < 21 := c.kind c1;omega⟩) ?_)
   refine zC (zA (zM ?_));exact FinV.ret rfl (SubP.int (by rw [clA,if_pos c1,ocS,if_neg c4]))
theorem wZ (h : List Ob) (v : Vl) (g : Uh h) (c : Cf h v) : Fn Tryz.prog 52 [hpD md h,.agg (vlD v)] (.v (.string (yO h (clA h v)).name)) := by
 refine yG zL Tryz.func52 rfl rfl rfl rfl rfl rfl ?_;intro w0 s0 mx;refine zJ 100 ?_;refine zB (yD zL [] [[],[0],[],[],[2,3],(rgN 5),(rgN 6),(rgN 7),(rgN 8)] 200 yU (by kernel_rfl) rfl ?_);repeat (first | refine zG ?_ | refine zH ?_ | refine zU (by exact tL0 g c) ?_)
 refine zR _ (heapClassOf_ok h v c) rfl ?_;repeat (first | refine zG ?_ | refine zH ?_ | refine zU (by exact tL0 g c) ?_)
 refine zC (zA (zM ?_));exact FinV.ret rfl (SubP.refl _)
variable {md me : Bool}
variable {md me : Bool}
variable {md me : Bool}
def nuV (n : Int) : Vl := ⟨2,decide (n < 0),lim n.natAbs,false,[],ByteArray.empty,0⟩
variable {md me : Bool}
variable {md me : Bool}
variable {md me : Bool}
theorem yY {l : List Nat} (h : Lg l) (i : Nat) : l.getD i 0 < 4294967296 := by
 rcases Nat.lt_or_ge i l.length with h1 | h1
 ·rw [qL h1];exact h.at h1
 ·rw [List.getD_eq_getElem?_getD,List.getElem?_eq_none h1];show 0 < _;omega
theorem gH0 {l : List Nat} {n : Nat} (hl : l.length = n + 1) : VL l = VL (l.take n) + 4294967296 ^ n * l.getD n 0 := by
 rw [qL (by omega),← vR (by omega),List.take_of_length_le (by omega)]
structure TrmL (l : List Nat) where
 r : List Nat
 lg : Lg r
 eq : VL r = VL l
 le : r.length ≤ l.length
theorem last_takeL {r : List Nat} (h : 0 < r.length) (h0 : r.getD (r.length - 1) 0 = 0) : VL (r.take (r.length - 1)) = VL r := by
 have h1 := gH0 (l := r) (n := r.length - 1) (by omega);rw [h0] at h1;omega
def TrmL.next {l : List Nat} (x : TrmL l) (h : 0 < x.r.length) (h0 : x.r.getD (x.r.length - 1) 0 = 0) : TrmL l := ⟨x.r.take (x.r.length - 1),x.lg.take _,by rw [last_takeL h h0,x.eq],by have := x.le;simp;omega⟩
theorem TrmL.fin {l : List Nat} (x : TrmL l) (h : 0 < x.r.length → x.r.getD (x.r.length - 1) 0 ≠ 0) : x.r = lim (VL l) := by
 rw [← x.eq];refine (cH0 x.lg fun hne => ?_).symm;have hp : 0 < x.r.length := List.length_pos_iff.2 hne;rw [List.getLast_eq_getElem,← qL (by omega)];exact h hp
theorem mA {b : Bool} {l : List Nat} (hg : Lg l) (h : jY b l = true) : l = lim (VL l) ∧ b = decide (ZI b (VL l) < 0) ∧ l.length ≤ 128 := by
 unfold jY at h;rw [Bool.and_eq_true,Bool.or_eq_true,Bool.and_eq_true,Bool.and_eq_true,decide_eq_true_eq,decide_eq_true_eq,decide_eq_true_eq,decide_eq_true_eq] at h;obtain ⟨h1,h2⟩ := h;rcases h2 with ⟨h2,h3⟩ | ⟨h2,h3⟩
 ·have hl : l = [] := List.eq_nil_of_length_eq_zero h2;subst hl;have hb : b = false := by simpa using h3
  subst hb;exact ⟨by rw [uA0,qC],rfl,Nat.zero_le _⟩
 ·have hn : yW0 l := fun hne => by
   rw [List.getLast_eq_getElem]
   rwa [qL (by omega)] at h3
  have hv := (cH0 hg hn).symm;refine ⟨hv,?_,h1⟩;have hp : 0 < VL l := by
   rcases Nat.eq_zero_or_pos (VL l) with h0 | h0
   ·rw [h0,qC] at hv;rw [hv] at h2;exact absurd h2 (by decide)
   ·exact h0
  unfold ZI
  cases b
  ·simp
  ·simp;omega
theorem lim_nil {n : Nat} : lim n = [] ↔ n = 0 := by
 constructor
 ·intro h;rcases Nat.eq_zero_or_pos n with h0 | h0
  ·exact h0
  ·rw [wV (by omega)] at h;cases h
 ·rintro rfl;exact qC
theorem lim_len {n : Nat} : (decide ((0 : Int) < ((lim n).length : Nat))) = decide (0 < n) := by
 apply decide_eq_decide.2;constructor
 ·intro h;rcases Nat.eq_zero_or_pos n with h0 | h0
  ·rw [h0,qC] at h;exact absurd h (by decide)
  ·exact h0
 ·intro h;have : lim n ≠ [] := fun e => by rw [lim_nil] at e;omega
  have := List.length_pos_iff.2 this;omega
theorem vQ0 (z : Int) : ZI (decide (z < 0)) z.natAbs = z := by
 unfold ZI;by_cases h : z < 0
 ·rw [decide_eq_true h,if_pos rfl];omega
 ·rw [decide_eq_false h,if_neg (by decide)];omega


variable {md me : Bool}
def iV (x : Bool × List Nat) : List D := [.v (.bool x.1),usD x.2]
def faD (c i : Int) : D := .agg [.v (.int .i64 c),.v (.int .i64 i)]
def sgB (b : Bool) (l : List Nat) : Bool := if l.length ≤ 128 then b && decide ((0 : Int) < (l.length : Nat)) else false
def sgL (l : List Nat) : List Nat := if l.length ≤ 128 then l else []
def sgC (l : List Nat) : Int := if l.length ≤ 128 then 0 else 14
def sgI (l : List Nat) : Int := if l.length ≤ 128 then 0 else -1
def sgD (b : Bool) (l : List Nat) : D := .tup [.agg (iV (sgB b l,sgL l)),faD (sgC l) (sgI l)]
theorem bH0 {b : Bool} {l : List Nat} (h : l.length ≤ 128) : D.tup [.agg (iV (b && decide ((0 : Int) < (l.length : Nat)),l)),faD 0 0] = sgD b l := by rw [sgD,sgB,sgL,sgC,sgI,if_pos h,if_pos h,if_pos h,if_pos h]
theorem sgD_gt {b : Bool} {l : List Nat} (h : ¬ l.length ≤ 128) : SubP (D.tup [.agg [.v (.bool false),.v (.slice none 0 0)],faD 14 (-1)]) (sgD b l) := by
 have e : D.tup [.agg (iV (false,[])),faD 14 (-1)] = sgD b l := by rw [sgD,sgB,sgL,sgC,sgI,if_neg h,if_neg h,if_neg h,if_neg h]
 rw [← e];exact SubP.tup ⟨SubP.agg ⟨SubP.refl _,SubP.nilSl rfl,trivial⟩,SubP.refl _,trivial⟩
def limN : Nat → Nat → List Nat
 | 0,_ => []
 | n + 1,v => v % 4294967296 :: limN n (v / 4294967296)
theorem wW : ∀ n v,(limN n v).length = n
 | 0,_ => rfl
 | n + 1,v => by rw [limN,List.length_cons,wW n]
theorem pH : ∀ n v,Lg (limN n v)
 | 0,_ => Lg.nil
 | n + 1,v => fun x hx => by
  rw [limN] at hx;rcases List.mem_cons.1 hx with rfl | hx
  ·exact Nat.mod_lt _ (by decide)
  ·exact pH n _ x hx
theorem bQ0 : ∀ {l : List Nat},Lg l → limN l.length (VL l) = l
 | [],_ => rfl
 | d :: l,h => by
  have h1 := h d List.mem_cons_self;rw [uE,List.length_cons,limN,show (d + 4294967296 * VL l) % 4294967296 = d by omega,show (d + 4294967296 * VL l) / 4294967296 = VL l by omega,bQ0 fun x hx => h x (List.mem_cons_of_mem _ hx)]
theorem gF0 {n v : Nat} (h : v < 4294967296 ^ n) : VL (limN n v) = v := by
 induction n generalizing v with
 | zero => simp at h;subst h;rfl
 | succ n ih =>
  rw [limN,uE,ih (by rw [Nat.pow_succ] at h;omega)];omega
theorem tT0 {l r : List Nat} (h1 : Lg l) (h2 : Lg r) : Lg (l ++ r) := fun x hx => (List.mem_append.1 hx).elim (h1 x) (h2 x)
theorem dW {s : Nat} {p : Int} {q : Nat} (h : p = (q : Int)) : Int.fdiv (s : Int) p = ((s / q : Nat) : Int) := by
 subst h;rw [Int.fdiv_eq_ediv_of_nonneg _ (by omega)];rfl
theorem zH0 {o x : List Nat} {k v : Nat} (ho : o.length = k) (hk : k < x.length) : (MR.upd (.map (o ++ x.drop k) uD 0) k (uD v)).rows = (MR.map ((o ++ [v]) ++ x.drop (k + 1)) uD 0).rows := by
 simp only [MR.rows];rw [← List.map_set];congr 1;rw [List.set_append_right _ _ (by omega),ho,Nat.sub_self,List.drop_eq_getElem_cons hk,List.set_cons_zero];simp
theorem qL0 {o x : List Nat} {k : Nat} (ho : o.length = k) : (o ++ x.drop k).getD k 0 = x.getD k 0 := by
 rw [List.getD_eq_getElem?_getD,List.getElem?_append_right (by omega),ho,Nat.sub_self,List.getElem?_drop,List.getD_eq_getElem?_getD];rfl
theorem intAt_ok (c i : Int) : Fn Tryz.prog 245 [.v (.int .i64 c),.v (.int .i64 i)] (faD c i) := by
 refine yG zL Tryz.func245 rfl rfl rfl rfl rfl rfl ?_;intro w0 s0 mx;refine zJ 100 ?_;refine zJ 200 ?_;refine zM ?_;exact FinV.ret rfl (SubP.refl _)
theorem wX (b : Bool) (l : List Nat) (hl : l.length ≤ 2000000) : Fn Tryz.prog 119 [.agg [.v (.bool b),usD l]] (.v (.bool (jY b l))) := by
 refine yG zL Tryz.func119 rfl rfl rfl rfl rfl rfl ?_;intro w0 s0 mx;refine zJ 100 ?_;refine zJ 200 ?_;refine zB (zE zL [] 300 rfl ?_);repeat (first | refine zG ?_ | refine zH ?_ | refine zU (by first | exact trivial | omega | exact ini (by omega) (by omega) | (intro hh;simp at hh;exact ini (by omega) (by omega)) | (intro hh;simp at hh ⊢;omega) | (simp at *;omega) | (simp_all;done) | (intros;exact ini (by omega) (by omega))) ?_)
 refine zC (zA (zM ?_));exact FinV.ret rfl (SubP.bool (by rw [← jG0]))
theorem vN (L : List (Bool × List Nat)) (hv : ∀ k < L.length,jY (L.getD k (false,[])).1 (L.getD k (false,[])).2 = true ∧ (L.getD k (false,[])).2.length ≤ 2000000) (hl : L.length ≤ 100) : Fn Tryz.prog 220 [.sl false 2 L iV (false,[])] (faD 0 0) := by
 refine yG zL Tryz.func220 rfl rfl rfl rfl rfl rfl ?_;intro w0 s0 mx;refine zJ 100 ?_;refine zB (zJ 200 ?_);refine zP ?_;refine yB (ι := {k : Nat // k ≤ L.length}) [2,5,6] [0] 250 (fun x => [(7,.v (.int .i64 x.1))]) (fun _ => []) (fun x => L.length - x.1) ⟨0,Nat.zero_le _⟩ ?_;refine ⟨⟨yL,yI,rfl,rfl⟩,fun x => ?_⟩;have hk : x.1 ≤ L.length := x.2;refine zJ 300 ?_;refine zB (zX (fun c2 => ?_) (fun c2 => ?_))
 ·
  refine zK (zA (zB (zP (zJ 400 ?_))));refine zB (zE zL [] 500 rfl ?_);refine zF ?_;refine zR _ (wX _ _ (by first | assumption | omega | (simp_all;done))) rfl ?_;refine zF ?_;refine zC (zA (zX (fun c4 => ?_) (fun c4 => ?_)))
  ·
   exact Bool.noConfusion (c4.symm.trans (hv x.1 (by omega)).1)
  ·
   refine zK (zN (zA (yN zL [] 700 ?_)));exact zS (⟨x.1 + 1,by omega⟩) ⟨⟨Sub.int (by push_cast;rfl),yL⟩,yI,rfl,rfl⟩ (by show L.length - (x.1 + 1) < L.length - x.1;omega)
 ·
  refine yF (zZ (yA (zW (zA (zJ 800 ?_)))));refine zM ?_;exact FinV.ret rfl (SubP.refl _)
theorem vE (b : Bool) (l : List Nat) : Fn Tryz.prog 224 [.v (.bool b),usD l] (sgD b l) := by
 refine yG zL Tryz.func224 rfl rfl rfl rfl rfl rfl ?_;intro w0 s0 mx;refine zJ 100 ?_;refine zB (zJ 200 ?_);refine zX (fun c1 => ?_) (fun c1 => ?_)
 ·
  refine zB (zE zL [] 300 rfl ?_);refine zF ?_;refine zR _ (intAt_ok _ _) rfl ?_;refine zF ?_;refine zC (zA (zM (zO ?_)));exact FinV.ret rfl (sgD_gt (b := b) (l := l) (by omega))
 ·
  refine zK (zA (zJ 400 ?_));refine zM ?_;exact FinV.ret rfl (SubP.of_eq (bH0 (b := b) (l := l) (by omega)))
theorem cA (l : List Nat) (hl : l.length ≤ 2000000) : FnO Tryz.prog 101 [usD l] 126 1 (l.map uD) := by
 refine tB0 Tryz.func101 rfl rfl rfl rfl rfl rfl ?_;intro w0 s0 mx;refine zB (zE zL [5] 100 rfl ?_);repeat (first | refine zG ?_ | refine zH ?_ | refine zU (by exact wG hl) ?_)
 refine zC (zA (zB (zB ?_)));refine xW Tryz.underlying25 rfl rfl rfl fun c hc => ?_;refine zA (zT rfl (fun c1 => ?_) (fun c1 => ?_))
 ·
  refine zB (zE zL [5] 300 rfl ?_);repeat (first | refine zG ?_ | refine zH ?_ | refine zU (by exact wG hl) ?_)
  refine zC (zA (zM (zO ?_)));exact FinO.nil rfl (by rw [hc c1];rfl)
 ·
  refine zK (zA ?_);refine zB (zE zL [5] 400 rfl ?_);repeat (first | refine zG ?_ | refine zH ?_ | refine zU (by first | rfl | exact wG hl | (rw [List.length_nil];have := wG (f := uD) hl;omega) | (have := wG (f := uD) hl;simp at this ⊢;omega)) ?_)
  refine zC (zA (zM ?_));exact FinO.ret rfl rfl rfl rfl
variable {md me : Bool}
end Go.Proofs.YtinegkcbkefeiaaGreatDoor
/-
  DERIVED: THE SHELF's CONTRACTS AT THIS DUMP,IN PLAIN WORDS (tools/lay-plain.mjs out of 'YtinegkcbkefeiaaGreatDoorShelf3.lean',which tools/lay-shelf.mjs wrote): THE SAME DECLARATIONS UNDER THE SAME NAMES: 'import','namespace','open','def','theorem' AND NOTHING ELSE: no command of the shelf's: FOR A HAND-IN. Each laying: the table of numbers ('.._ren') and one theorem,a field a fact of the dump's own or the kernel's comparison;each contract: ONE APPLICATION.
-/
namespace Go.Proofs
open Go.Shelf
end Go.Proofs
namespace Go.Proofs.YtinegkcbkefeiaaGreatDoor
open Go.RowKit Go.Shelf
open Go.RowKit
variable {md me : Bool}
def st0 : St := ⟨0,vl0,0,ByteArray.empty,vl0,[]⟩
variable {md me : Bool}
variable {md me : Bool}
theorem cmpValue_ok (v : Vl) : Fn Tryz.prog 57 [.agg (vlD v)] (.agg (stD (vlS v))) := by
 refine yG zL Tryz.func57 rfl rfl rfl rfl rfl rfl ?_;intro w0 s0 mx;refine zJ 100 ?_;refine zJ 200 ?_;refine zM ?_;exact FinV.ret rfl (SubP.agg (by repeat (first | exact trivial | exact SubP.refl _ | exact SubP.nilSl rfl | refine ⟨?_,?_⟩)))
theorem vY (h : List Ob) (v : Vl) (hv : v.k = 6 → jR h v.r = true) : Fn Tryz.prog 56 [hpD md h,.agg (vlD v)] (.agg (obD (zY h v))) := by
 refine yG zL Tryz.func56 rfl rfl rfl rfl rfl rfl ?_;intro w0 s0 mx;refine zJ 100 ?_;refine zB (zJ 200 ?_);refine zX (fun c1 => ?_) (fun c1 => ?_)
 ·
  refine zJ 300 ?_;refine zM (zO ?_);have e : zY h v = ob0 := uR0 c1;rw [e];exact FinV.ret rfl (by repeat (first | exact trivial | exact SubP.refl _ | exact SubP.nilSl rfl | refine SubP.agg ?_ | refine ⟨?_,?_⟩))
 ·
  refine zK (zA ?_);refine zB (zE zL [] 400 rfl ?_);repeat (first | refine zG ?_ | refine zH ?_ | refine zU (by exact yV (hv c1)) ?_)
  refine zC (zA (zM ?_));have e : zY h v = h.getD v.r.toNat ob0 := uS0 hv c1;rw [e];exact FinV.ret rfl (by repeat (first | exact trivial | exact SubP.refl _ | exact SubP.nilSl rfl | refine SubP.agg ?_ | refine ⟨?_,?_⟩))
theorem pG {x y : Nat} (h : (lim x).length < (lim y).length) : x < y := by
 have h0 : y ≠ 0 := by intro e;subst e;rw [qC] at h;simp at h
 have h1 := xQ x;have h2 := lim_ge h0;exact Nat.lt_of_lt_of_le h1 (Nat.le_trans (Nat.pow_le_pow_right (by omega) (by omega)) h2)
theorem qV {x y : Nat} (h : x ≤ y) : (lim x).length ≤ (lim y).length := by
 rcases Nat.lt_or_ge (lim y).length (lim x).length with h1 | h1
 ·have := pG h1;omega
 ·exact h1
def cmpL (x y : Nat) : Int := if (lim x).length = (lim y).length then cmpN x y else ((lim x).length : Int) - ((lim y).length : Int)
theorem cmpL_ne {x y : Nat} (h : (lim x).length ≠ (lim y).length) : cmpL x y = ((lim x).length : Int) - ((lim y).length : Int) := if_neg h
theorem vM0 {x y : Nat} (h : (lim x).length = (lim y).length) : cmpL x y = cmpN x y := if_pos h
theorem tK0 (x y : Nat) : min (max (cmpL x y) (-1)) 1 = cmpN x y := by
 unfold cmpL;split
 ·unfold cmpN;split
  ·rfl
  ·split <;> rfl
 ·rename_i h;rcases Nat.lt_or_gt_of_ne h with h1 | h1
  ·rw [cmpN,if_pos (pG h1)];omega
  ·have := pG h1;rw [cmpN,if_neg (by omega),if_pos this];omega
theorem xV0 (x y : Nat) : cmpL x y < 0 ↔ x < y := by
 have h := tK0 x y;unfold cmpN at h;constructor
 ·intro h1;by_cases h2 : x < y
  ·exact h2
  ·rw [if_neg h2] at h;split at h <;> omega
 ·intro h1;rw [if_pos h1] at h;omega
structure CpL (a b : Nat) where
 k : Nat
 le : k ≤ (lim a).length
 eq : (lim a).drop k = (lim b).drop k
def CpL.next {a b : Nat} (x : CpL a b) (hl : (lim a).length = (lim b).length) (h : 0 < x.k) (he : (lim a).getD (x.k - 1) 0 = (lim b).getD (x.k - 1) 0) : CpL a b := ⟨x.k - 1,by have := x.le;omega,by
 have h1 := x.le;rw [qL (by omega),qL (by omega)] at he;rw [List.drop_eq_getElem_cons (by omega),List.drop_eq_getElem_cons (l := lim b) (by omega),he,show x.k - 1 + 1 = x.k by omega,x.eq]⟩
theorem ltL_at {la lb : List Nat} {i : Nat} (ha : Lg la) (hl : la.length = lb.length) (hi : i < la.length) (hd : la.drop (i + 1) = lb.drop (i + 1)) (h : la[i] < lb[i]) : VL la < VL lb := by
 rw [vS la (i + 1) (by omega),vS lb (i + 1) (by omega),hd,vR hi,vR (l := lb) (m := i) (by omega)];have h1 := L_lt (ha.take i);rw [List.length_take,Nat.min_eq_left (Nat.le_of_lt hi)] at h1;have h2 : 4294967296 ^ i * (la[i] + 1) ≤ 4294967296 ^ i * lb[i] := Nat.mul_le_mul_left _ h;rw [Nat.mul_add] at h2;omega
theorem tJ0 {a b k : Nat} (hl : (lim a).length = (lim b).length) (hk : 0 < k) (hk2 : k ≤ (lim a).length) (hd : (lim a).drop k = (lim b).drop k) (h : (lim a).getD (k - 1) 0 < (lim b).getD (k - 1) 0) : a < b := by
 rw [qL (by omega),qL (by omega)] at h;have := ltL_at (yR a) hl (i := k - 1) (by omega) (by rw [show k - 1 + 1 = k by omega];exact hd) h
 rwa [uY,uY] at this
theorem VL_take_ge {l : List Nat} {k : Nat} (h : l.length ≤ k) : VL (l.take (k + 1)) = VL (l.take k) := by rw [List.take_of_length_le h,List.take_of_length_le (by omega)]
theorem jN {l : List Nat} {k : Nat} (h : l.length ≤ k) : l.getD k 0 = 0 := by rw [List.getD_eq_getElem?_getD,List.getElem?_eq_none h];rfl
theorem qF (l : List Nat) (k : Nat) : VL (l.take (k + 1)) = VL (l.take k) + 4294967296 ^ k * l.getD k 0 := by
 rcases Nat.lt_or_ge k l.length with h | h
 ·rw [vR h,qL h]
 ·rw [VL_take_ge h,jN h];omega
structure PlL (a b : List Nat) where
 k : Nat
 c : Nat
 o : List Nat
 eq : VL o + c * 4294967296 ^ k = VL (a.take k) + VL (b.take k)
 lo : o.length = k
 lg : Lg o
 hc : c ≤ 1
 le : k ≤ a.length
def PlL.s {a b : List Nat} (x : PlL a b) : Nat := x.c + a.getD x.k 0 + b.getD x.k 0
theorem pll_step {a b o : List Nat} {k c s : Nat} (h : VL o + c * 4294967296 ^ k = VL (a.take k) + VL (b.take k)) (ho : o.length = k) (hs : s = c + a.getD k 0 + b.getD k 0) :
  VL (o ++ [s % 4294967296]) + s / 4294967296 * 4294967296 ^ (k + 1) = VL (a.take (k + 1)) + VL (b.take (k + 1)) := by
 rw [mM,ho,qF a,qF b,Nat.pow_succ];generalize 4294967296 ^ k = B at *;have e : s = 4294967296 * (s / 4294967296) + s % 4294967296 := (Nat.div_add_mod s 4294967296).symm;have e2 : B * s = B * (4294967296 * (s / 4294967296)) + B * (s % 4294967296) := by rw [← Nat.mul_add,← e]
 have e3 : B * s = B * c + B * a.getD k 0 + B * b.getD k 0 := by rw [hs,Nat.mul_add,Nat.mul_add]
 have e4 : s / 4294967296 * (B * 4294967296) = B * (4294967296 * (s / 4294967296)) := by rw [Nat.mul_comm,Nat.mul_assoc]
 have e5 : c * B = B * c := Nat.mul_comm _ _;omega
theorem PlL.s_le {a b : List Nat} (x : PlL a b) (ha : Lg a) (hb : Lg b) : x.s ≤ 8589934591 := by
 have h1 := yY ha x.k;have h2 := yY hb x.k;have h3 := x.hc;unfold PlL.s;omega
def PlL.next {a b : List Nat} (x : PlL a b) (ha : Lg a) (hb : Lg b) (h : x.k < a.length) : PlL a b := ⟨x.k + 1,x.s / 4294967296,x.o ++ [x.s % 4294967296],pll_step x.eq x.lo rfl,by simp [x.lo],x.lg.snoc (Nat.mod_lt _ (by decide)),by have := x.s_le ha hb;omega,h⟩
def PlL.start (a b : List Nat) : PlL a b := ⟨0,0,[],by simp [VL],rfl,Lg.nil,Nat.zero_le _,Nat.zero_le _⟩
theorem PlL.fin {a b : List Nat} (x : PlL a b) (h : a.length ≤ x.k) (hl : b.length ≤ a.length) : VL (x.o ++ [x.c]) = VL a + VL b ∧ Lg (x.o ++ [x.c]) := by
 have h1 := x.eq;rw [List.take_of_length_le h,List.take_of_length_le (by omega)] at h1;refine ⟨by rw [mM,x.lo,Nat.mul_comm];exact h1,x.lg.snoc (by have := x.hc;omega)⟩
structure MiL (a b : List Nat) where
 k : Nat
 c : Nat
 o : List Nat
 eq : VL o + VL (b.take k) = VL (a.take k) + c * 4294967296 ^ k
 lo : o.length = k
 lg : Lg o
 hc : c ≤ 1
 le : k ≤ a.length
def lsD (x y b : Nat) : Nat := (x + 8589934592 - y - b) % 4294967296
def lsB (x y b : Nat) : Nat := if x < y + b then 1 else 0
theorem cB0 {x y b : Nat} (hx : x < 4294967296) (hy : y < 4294967296) (hb : b ≤ 1) : lsD x y b + y + b = x + 4294967296 * lsB x y b := by
 unfold lsD lsB;split <;> omega
theorem cA0 (x y b : Nat) : lsD x y b < 4294967296 := Nat.mod_lt _ (by decide)
theorem bO0 (x y b : Nat) : lsB x y b ≤ 1 := by unfold lsB;split <;> omega
theorem mil_step {a b o : List Nat} {k c y d : Nat} (h : VL o + VL (b.take k) = VL (a.take k) + c * 4294967296 ^ k) (ho : o.length = k) (hy : y + b.getD k 0 + c = a.getD k 0 + 4294967296 * d) :
  VL (o ++ [y]) + VL (b.take (k + 1)) = VL (a.take (k + 1)) + d * 4294967296 ^ (k + 1) := by
 rw [mM,ho,qF a,qF b,Nat.pow_succ];generalize 4294967296 ^ k = B at *;have e : B * y + B * b.getD k 0 + B * c = B * a.getD k 0 + B * (4294967296 * d) := by rw [← Nat.mul_add,← Nat.mul_add,← Nat.mul_add,hy]
 have e4 : d * (B * 4294967296) = B * (4294967296 * d) := by rw [Nat.mul_comm,Nat.mul_assoc]
 have e5 : c * B = B * c := Nat.mul_comm _ _;omega
def MiL.next {a b : List Nat} (x : MiL a b) (ha : Lg a) (hb : Lg b) (h : x.k < a.length) : MiL a b := ⟨x.k + 1,lsB (a.getD x.k 0) (b.getD x.k 0) x.c,x.o ++ [lsD (a.getD x.k 0) (b.getD x.k 0) x.c],mil_step x.eq x.lo (cB0 (yY ha _) (yY hb _) x.hc),by simp [x.lo],x.lg.snoc (cA0 _ _ _),bO0 _ _ _,h⟩
def MiL.start (a b : List Nat) : MiL a b := ⟨0,0,[],by simp [VL],rfl,Lg.nil,Nat.zero_le _,Nat.zero_le _⟩
theorem MiL.fin {a b : List Nat} (x : MiL a b) (h : a.length ≤ x.k) (hl : b.length ≤ a.length) (hle : VL b ≤ VL a) : VL x.o = VL a - VL b := by
 have hk := x.le;have h1 := x.eq;have h2 := x.hc;have h3 := L_lt x.lg;rw [List.take_of_length_le h,List.take_of_length_le (by omega)] at h1;rw [x.lo] at h3;rcases Nat.eq_zero_or_pos x.c with h4 | h4
 ·rw [h4] at h1;omega
 ·rw [show x.c = 1 by omega] at h1;omega
theorem wb32 (v : BitVec 32) : IntKind.u32.wrap (v.toNat : Int) = (v.toNat : Int) := by
 have := v.isLt;simp only [IntKind.wrap,IntKind.signed,IntKind.bits,Bool.false_and,Bool.false_eq_true,if_false];omega
theorem uQ0 (v : BitVec 32) : BitVec.ofInt 32 (v.toNat : Int) = v := by rw [BitVec.ofInt_natCast,BitVec.ofNat_toNat,BitVec.setWidth_eq]
theorem tO0 (x y : BitVec 32) : bAnd .u32 (x.toNat : Int) (y.toNat : Int) = ((x &&& y).toNat : Int) := by
 show IntKind.u32.wrap ((BitVec.ofInt 32 (x.toNat : Int) &&& BitVec.ofInt 32 (y.toNat : Int)).toNat : Int) = _;rw [uQ0,uQ0,wb32]
theorem bOr32 (x y : BitVec 32) : bOr .u32 (x.toNat : Int) (y.toNat : Int) = ((x ||| y).toNat : Int) := by
 show IntKind.u32.wrap ((BitVec.ofInt 32 (x.toNat : Int) ||| BitVec.ofInt 32 (y.toNat : Int)).toNat : Int) = _;rw [uQ0,uQ0,wb32]
theorem bXor32 (x y : BitVec 32) : bXor .u32 (x.toNat : Int) (y.toNat : Int) = ((x ^^^ y).toNat : Int) := by
 show IntKind.u32.wrap ((BitVec.ofInt 32 (x.toNat : Int) ^^^ BitVec.ofInt 32 (y.toNat : Int)).toNat : Int) = _;rw [uQ0,uQ0,wb32]
theorem tN0 (x : BitVec 32) : bNot .u32 (x.toNat : Int) = ((~~~x).toNat : Int) := by
 show IntKind.u32.wrap ((BitVec.ofInt 32 4294967295 ^^^ BitVec.ofInt 32 (x.toNat : Int)).toNat : Int) = _;rw [uQ0,show BitVec.ofInt 32 4294967295 = BitVec.allOnes 32 by decide,BitVec.allOnes_xor,wb32]
theorem top32 (v : BitVec 32) : v.toNat / 2147483648 = if v.msb then 1 else 0 := by
 have h := v.isLt;rw [BitVec.msb_eq_decide];by_cases h1 : 2 ^ (32 - 1) ≤ v.toNat
 ·rw [decide_eq_true h1,if_pos rfl];omega
 ·rw [decide_eq_false h1,if_neg (by decide)];omega
theorem cF0 {x : Nat} (h : x < 4294967296) : (BitVec.ofNat 32 x).msb = decide (2147483648 ≤ x) := by
 rw [BitVec.msb_eq_decide,BitVec.toNat_ofNat,Nat.mod_eq_of_lt h]
theorem cD0 {x : Nat} (h : x < 4294967296) : x = (BitVec.ofNat 32 x).toNat := by rw [BitVec.toNat_ofNat,Nat.mod_eq_of_lt h]
theorem sub32_lo {x y b : Nat} (hx : x < 4294967296) (hy : y < 4294967296) (hb : b ≤ 1) : IntKind.u32.wrap (IntKind.u32.wrap ((x : Int) - (y : Int)) - (b : Int)) = ((lsD x y b : Nat) : Int) := by
 simp only [IntKind.wrap,IntKind.signed,IntKind.bits,Bool.false_and,Bool.false_eq_true,if_false,lsD];omega
theorem sub32_hi {x y b : Nat} (hx : x < 4294967296) (hy : y < 4294967296) (hb : b ≤ 1) :
  Int.fdiv (bOr .u32 (bAnd .u32 (bNot .u32 (x : Int)) (y : Int)) (bAnd .u32 (bNot .u32 (bXor .u32 (x : Int) (y : Int))) ((lsD x y b : Nat) : Int))) (2 ^ min (Int.toNat 31) IntKind.u32.bits) = ((lsB x y b : Nat) : Int) := by
 have hd : lsD x y b < 4294967296 := cA0 x y b;have hs := cB0 hx hy hb;have m1 := cF0 hx;have m2 := cF0 hy;have m3 := cF0 hd;rw [show ((x : Nat) : Int) = ((BitVec.ofNat 32 x).toNat : Int) by rw [← cD0 hx],show ((y : Nat) : Int) = ((BitVec.ofNat 32 y).toNat : Int) by rw [← cD0 hy],show ((lsD x y b : Nat) : Int) = ((BitVec.ofNat 32 (lsD x y b)).toNat : Int) by rw [← cD0 hd],tN0,tO0,bXor32,tN0,tO0,bOr32];rw [show ((2 : Int) ^ min (Int.toNat 31) IntKind.u32.bits) = ((2147483648 : Nat) : Int) by decide,Int.fdiv_eq_ediv_of_nonneg _ (by omega),← Int.natCast_ediv,top32];simp only [BitVec.msb_or,BitVec.msb_and,BitVec.msb_not,BitVec.msb_xor,m1,m2,m3];congr 1;unfold lsB at *;generalize lsD x y b = d at *;by_cases h1 : 2147483648 ≤ x <;> by_cases h2 : 2147483648 ≤ y <;> by_cases h3 : 2147483648 ≤ d <;> by_cases h4 : x < y + b <;> simp only [h1,h2,h3,h4,decide_true,decide_false,if_true,if_false,Bool.and_true,Bool.and_false,Bool.not_true,Bool.not_false,Bool.or_true,Bool.or_false,Bool.true_and,Bool.false_and,Bool.xor_true,Bool.xor_false,Bool.true_or,Bool.false_or] at hs ⊢ <;> (first | rfl | omega)
variable {md me : Bool}
theorem zW0 {x : Nat} (h : 0 < (lim x).length) : (lim x).getD ((lim x).length - 1) 0 ≠ 0 := by
 have h1 := lim_noLead x (List.length_pos_iff.1 h)
 rwa [List.getLast_eq_getElem,← qL (by omega)] at h1
theorem bU (x : Nat) (hx : (lim x).length ≤ 600) : Fn Tryz.prog 239 [usD (lim x)] (.v (.bool true)) := by
 refine yG zL Tryz.func239 rfl rfl rfl rfl rfl rfl ?_;intro w0 s0 mx;refine zJ 100 ?_;refine zB (zE zL [] 200 rfl ?_);repeat (first | refine zG ?_ | refine zH ?_ | refine zU (by first | exact trivial | omega | exact ini (by omega) (by omega) | (intro hh;simp at hh;exact ini (by omega) (by omega)) | (intro hh;simp at hh ⊢;omega) | (simp at *;omega) | (simp_all;done) | (simp;intro _ h2;have := List.length_pos_iff.2 h2;omega)) ?_)
 refine zC (zA (zM ?_));exact FinV.ret rfl (SubP.bool (by simp;refine ⟨by omega,?_⟩;by_cases h : lim x = [];exact Or.inl h;exact Or.inr (by have := zW0 (x := x) (List.length_pos_iff.2 h);rwa [List.getD_eq_getElem?_getD] at this)))
theorem uU (x y : Nat) (hx : (lim x).length ≤ 600) (hy : (lim y).length ≤ 600) : Fn Tryz.prog 207 [usD (lim x),usD (lim y)] (faD 0 0) := by
 refine yG zL Tryz.func207 rfl rfl rfl rfl rfl rfl ?_;intro w0 s0 mx;refine zJ 100 ?_;refine zB (zP ?_);refine zB (zE zL [] 200 rfl ?_);refine zF ?_;refine zR _ (bU _ (by first | assumption | omega | (simp_all;done))) rfl ?_;refine zF ?_;refine zC (zA (zX (fun c1 => ?_) (fun c1 => ?_)))
 ·
  exact absurd c1 (by decide)
 ·
  refine zB (zE zL [] 400 rfl ?_);refine zF ?_;refine zR _ (bU _ (by first | assumption | omega | (simp_all;done))) rfl ?_;refine zF ?_;refine zC (zA (zX (fun c3 => ?_) (fun c3 => ?_)))
  ·
   exact absurd c3 (by decide)
  ·
   refine zK (zN (zA (zJ 600 ?_)));refine zM ?_;exact FinV.ret rfl (SubP.refl _)
theorem jD (l : List Nat) (hg : Lg l) (hl : l.length ≤ 100000000) : Fn Tryz.prog 241 [usD l] (usD (lim (VL l))) := by
 refine yG zL Tryz.func241 rfl rfl rfl rfl rfl rfl ?_;intro w0 s0 mx;refine zJ 100 ?_;refine zB (zP ?_);refine yB (ι := TrmL l) [] [] 150 (fun x => [(0,.sl false 1 x.r uD 0)]) (fun _ => []) (fun x => x.r.length) ⟨l,hg,rfl,Nat.le_refl _⟩ ?_;refine ⟨⟨yL,yI,rfl,rfl⟩,fun x => ?_⟩;have hk := x.le;refine zB (zJ 200 ?_);refine zX (fun c1 => ?_) (fun c1 => ?_)
 ·
  refine zK (zA (zP (yN zL [] 300 ?_)));refine zN ?_;have h9 := c1.2;rw [pS] at h9;exact zS (x.next (by omega) (by omega)) ⟨(by first | exact trivial | (repeat (first | exact trivial | exact Sub.refl _ | refine ⟨?_,?_⟩ | exact Sub.int (by first | rfl | omega | (push_cast;omega)) | exact Sub.nilSl | exact Sub.own rfl | exact Sub.slrSl rfl | exact Sub.ownSl (List.map_append).symm | exact Sub.ownSl rfl | exact Sub.of_eq (by rw [pZ0];rfl)))),yI,rfl,rfl⟩ (by show (x.r.take (x.r.length - 1)).length < x.r.length;rw [List.length_take];omega)
 ·
  refine yF (zZ (yA (zW (zA (zJ 400 ?_)))));refine zM ?_;rw [pS] at c1;have e : x.r = lim (VL l) := x.fin (fun hp h9 => by rw [h9,decide_eq_true (show (0 : Int) < (x.r.length : Nat) by omega)] at c1;exact absurd c1 (by decide));exact FinV.ret rfl (SubP.of_eq (by rw [e];rfl))
theorem qV0 (l : List Nat) (hg : Lg l) (hl : l.length ≤ 100000000) (h6 : (lim (VL l)).length ≤ 600) : Fn Tryz.prog 208 [usD l] (.tup [usD (lim (VL l)),faD 0 0]) := by
 refine yG zL Tryz.func208 rfl rfl rfl rfl rfl rfl ?_;intro w0 s0 mx;refine zJ 100 ?_;refine zB ?_;refine zB (zE zL [] 200 rfl ?_);refine zF ?_;refine zR _ (jD _ (by first | assumption | omega | (simp_all;done)) (by first | assumption | omega | (simp_all;done))) rfl ?_;refine zF ?_;refine zC (zA (zJ 300 ?_));refine zX (fun c2 => ?_) (fun c2 => ?_)
 ·
  exact absurd c2 (by omega)
 ·
  refine zK (zA (zJ 500 ?_));refine zM ?_;exact FinV.ret rfl (SubP.refl _)
theorem wU (a b : Nat) (ha : (lim a).length ≤ 100000000) (hb : (lim b).length ≤ 100000000) : Fn Tryz.prog 210 [usD (lim a),usD (lim b)] (.v (.int .i64 (cmpL a b))) := by
 refine yG zL Tryz.func210 rfl rfl rfl rfl rfl rfl ?_;intro w0 s0 mx;refine zJ 100 ?_;refine zB (zJ 200 ?_);refine zX (fun c1 => ?_) (fun c1 => ?_)
 ·
  refine zJ 300 ?_;refine zM (zO ?_);exact FinV.ret rfl (SubP.int (cmpL_ne (by omega)).symm)
 ·
  refine zK (zA (zB (zJ 400 ?_)));refine zP ?_;refine yB (ι := CpL a b) [0,1] [] 450 (fun x => [(5,.v (.int .i64 ((x.k : Int) - 1)))]) (fun _ => []) (fun x => x.k) ⟨(lim a).length,Nat.le_refl _,by rw [List.drop_of_length_le (Nat.le_refl _),List.drop_of_length_le (by omega)]⟩ ?_;refine ⟨⟨yL,yI,rfl,rfl⟩,fun x => ?_⟩;have hk := x.le;have hkt : ((x.k : Int) - 1).toNat = x.k - 1 := by omega
  refine zB (zJ 500 ?_);refine zX (fun c4 => ?_) (fun c4 => ?_)
  ·
   refine zK (zA (zB (zP ?_)));refine zB (yD zL [] mK1 700 yU (by kernel_rfl) rfl ?_);refine zF ?_;refine zC (zA (zX (fun c6 => ?_) (fun c6 => ?_)))
   ·
    refine zB ?_;refine zB (yD zL [] mK1 800 yU (by kernel_rfl) rfl ?_);refine zF ?_;refine zC (zA (zX (fun c7 => ?_) (fun c7 => ?_)))
    ·
     refine zJ 900 ?_;refine zM (zO (zQ (zO (yK (zQ (zO ?_))))));rw [hkt] at c7;exact FinV.ret rfl (SubP.int (by rw [vM0 (by omega),xT0 (tJ0 (by omega) (by omega) hk x.eq (by omega))]))
    ·
     refine zK (zA (zJ 1000 ?_));refine zM (zQ (zO (yK (zQ (zO ?_)))));rw [hkt] at c6 c7;exact FinV.ret rfl (SubP.int (by rw [vM0 (by omega),xU0 (tJ0 (by omega) (by omega) (by omega) x.eq.symm (by omega))]))
   ·
    refine zK (zN (zA (yN zL [] 800 ?_)));rw [hkt] at c6;exact zS (x.next (by omega) (by omega) (by omega)) ⟨(by first | exact trivial | (repeat (first | exact trivial | exact Sub.refl _ | refine ⟨?_,?_⟩ | exact Sub.int (by first | rfl | omega | (push_cast;omega)) | exact Sub.nilSl | exact Sub.own rfl | exact Sub.slrSl rfl | exact Sub.ownSl (List.map_append).symm | exact Sub.ownSl rfl | exact Sub.int (by show (x.k : Int) - 1 - 1 = ((x.k - 1 : Nat) : Int) - 1;omega)))),yI,rfl,rfl⟩ (by show x.k - 1 < x.k;omega)
  ·
   refine yF (zZ (yA (zW (zA (zJ 1100 ?_)))));refine zM ?_;have hz : x.k = 0 := by omega
   have he := x.eq;rw [hz] at he;exact FinV.ret rfl (SubP.int (by rw [vM0 (by omega),pL0 (by have := congrArg VL he;rwa [List.drop_zero,List.drop_zero,uY,uY] at this)]))
theorem tB (a b : Nat) (ha : (lim a).length ≤ 600) (hb : (lim b).length ≤ 600) : Fn Tryz.prog 163 [usD (lim a),usD (lim b)] (.tup [.v (.int .i64 (cmpN a b)),faD 0 0]) := by
 refine yG zL Tryz.func163 rfl rfl rfl rfl rfl rfl ?_;intro w0 s0 mx;refine zJ 100 ?_;refine zB ?_;refine zB (zE zL [] 200 rfl ?_);refine zF ?_;refine zR _ (uU _ _ (by first | assumption | omega | (simp_all;done)) (by first | assumption | omega | (simp_all;done))) rfl ?_;refine zF ?_;refine zC (zA (zJ 300 ?_));refine zX (fun c2 => ?_) (fun c2 => ?_)
 ·
  exact absurd c2 (by decide)
 ·
  refine zK (zA ?_);refine zB (zE zL [] 500 rfl ?_);refine zF ?_;refine zR _ (wU _ _ (by first | assumption | omega | (simp_all;done)) (by first | assumption | omega | (simp_all;done))) rfl ?_;refine zF ?_;refine zC (zA (zM ?_));exact FinV.ret rfl (SubP.tup ⟨SubP.int (by have h := tK0 a b;generalize cmpL a b = c at *;rw [← h];split <;> (try split) <;> (try split at *) <;> omega),SubP.refl _,trivial⟩)
def I32 (x : Int) : Prop := 0 ≤ x ∧ x < 4294967296
theorem mC {l : List Nat} (h : Lg l) (i : Nat) : I32 ((l.getD i 0 : Nat) : Int) := by
 have := yY h i;exact ⟨by omega,by omega⟩
theorem zS1 : I32 0 := ⟨by decide,by decide⟩
theorem pW0 {l : List Nat} (h : Lg l) (i : Nat) : Lg (l.drop i) := fun x hx => h x (List.mem_of_mem_drop hx)
theorem sub32_ok {x y b : Int} (hx : I32 x) (hy : I32 y) (hb : 0 ≤ b ∧ b ≤ 1) : IntKind.u32.wrap (IntKind.u32.wrap (x - y) - b) = ((lsD x.toNat y.toNat b.toNat : Nat) : Int) ∧
  Int.fdiv (bOr .u32 (bAnd .u32 (bNot .u32 x) y) (bAnd .u32 (bNot .u32 (bXor .u32 x y)) ((lsD x.toNat y.toNat b.toNat : Nat) : Int))) (2 ^ min (Int.toNat 31) IntKind.u32.bits) = ((lsB x.toNat y.toNat b.toNat : Nat) : Int) := by
 obtain ⟨x,rfl⟩ := Int.eq_ofNat_of_zero_le hx.1;obtain ⟨y,rfl⟩ := Int.eq_ofNat_of_zero_le hy.1;obtain ⟨b,rfl⟩ := Int.eq_ofNat_of_zero_le hb.1;have h1 := hx.2;have h2 := hy.2;have h3 := hb.2;simp only [Int.toNat_natCast];exact ⟨sub32_lo (by omega) (by omega) (by omega),sub32_hi (by omega) (by omega) (by omega)⟩
theorem bC (x y b : Int) (hx : I32 x) (hy : I32 y) (hb : 0 ≤ b ∧ b ≤ 1) : Fn Tryz.prog 256 [.v (.int .u32 x),.v (.int .u32 y),.v (.int .u32 b)] (.tup [.v (.int .u32 (lsD x.toNat y.toNat b.toNat : Nat)),.v (.int .u32 (lsB x.toNat y.toNat b.toNat : Nat))]) := by
 refine yG zL Tryz.func256 rfl rfl rfl rfl rfl rfl ?_;intro w0 s0 mx;refine zJ 100 ?_;refine zJ 200 ?_;refine zJ 300 ?_;refine zM ?_;obtain ⟨e1,e2⟩ := sub32_ok hx hy hb;exact FinV.ret rfl (SubP.tup ⟨SubP.int e1,SubP.int (by rw [e1];exact e2),trivial⟩)
theorem CloneU_G (l : List Nat) (hl : l.length ≤ 2000000) : FnG Tryz.prog 101 [usD l] [] (.mo 0 l.length) [.mrow 126 1 (.map l uD 0)] := by
 refine xJ0 zL Tryz.func101 rfl rfl rfl rfl rfl rfl rfl ?_;intro w0 s0 mx;refine zB (zE zL [] 100 rfl ?_);repeat (first | refine zG ?_ | refine zH ?_ | refine zU (by exact wG hl) ?_)
 refine zC (zA (zB (zB ?_)));refine xW Tryz.underlying25 rfl rfl rfl fun c hc => ?_;refine zA (zT rfl (fun c1 => ?_) (fun c1 => ?_))
 ·
  refine zB (zE zL [] 300 rfl ?_);repeat (first | refine zG ?_ | refine zH ?_ | refine zU (by exact wG hl) ?_)
  refine zC (zA ?_);refine qK 2 126 1 rfl ?_;refine ev_thaw 300 rfl ?_;refine zM (zO ?_);obtain rfl := hc c1;exact FinH.ret 300 rfl rfl (Sub.refl _) ⟨SubO.mr rfl,trivial⟩
 ·
  refine zK (zA ?_);refine zB (zE zL [1005] 400 rfl ?_);repeat (first | refine zG ?_ | refine zH ?_ | refine zU (by first | rfl | exact wG hl | (simp only [MR.len,List.length_nil,List.length_map];omega)) ?_)
  refine zC (zA (zM ?_));exact FinH.ret 100 rfl rfl (Sub.mo (by rw [List.length_map,Nat.zero_add])) ⟨SubO.mr rfl,trivial⟩
theorem dC0 {P : Program} {E : Pn} {K : DS → Prop} {p : Prop} {r : Out} (hr : r.sat P E K) (hp : p := by first | exact ⟨hm,by rw [← hm];exact c4⟩ | exact ⟨hm,by rw [← hm];omega⟩ | first | exact trivial | omega | exact ini (by omega) (by omega) | (intro hh;simp at hh;exact ini (by omega) (by omega)) | (intro hh;simp at hh ⊢;omega) | (simp at *;omega) | (simp_all;done)) : (Out.need p r).sat P E K := ⟨hp,hr⟩
theorem natSub0_ok (a b : Nat) (ha : (lim a).length ≤ 100000) (hb : (lim b).length ≤ 100000) (hle : b ≤ a) : Fn Tryz.prog 248 [usD (lim a),usD (lim b)] (usD (lim (a - b))) := by
 refine yG zL Tryz.func248 rfl rfl rfl rfl rfl rfl ?_;intro w0 s0 mx;refine zJ 100 ?_;refine zB (zE zL [1010] 200 rfl ?_);refine zF ?_;refine jO _ _ (CloneU_G (lim a) (by omega)) rfl ?_;refine zF ?_;refine zC (zA (zJ 300 ?_));refine zB (zJ 400 ?_);refine zP ?_;refine yB (ι := MiL (lim a) (lim b)) [1,5,12] [] 450 (fun x => [(6,.v (.int .u32 x.c)),(13,.v (.int .i64 x.k))]) (fun x => [(101,.mrow 126 1 (.map (x.o ++ (lim a).drop x.k) uD 0))]) (fun x => (lim a).length - x.k) (MiL.start _ _) ?_;refine ⟨⟨yL,yI,rfl,rfl⟩,fun x => ?_⟩;have hk := x.le;have hlo := x.lo;have hc1 := x.hc;have hm : (lim a).length = (MR.map (x.o ++ (lim a).drop x.k) uD 0).len := by rw [MR.len,List.length_append,List.length_drop];omega
 refine zJ 500 ?_;refine zB (zX (fun c4 => ?_) (fun c4 => ?_))
 ·
  refine zK (zA (zB (zP (zJ 600 ?_))));refine zJ 700 ?_;refine zB (zJ 800 ?_);refine zX (fun c7 => ?_) (fun c7 => ?_)
  ·
   refine yN zL [] 900 ?_;refine zA ?_;refine zE zL [] 1000 rfl ?_;repeat (first | refine zG ?_ | refine zH ?_ | refine dC0 ?_)
   refine zR _ (bC _ _ _ (mC (tT0 x.lg (pW0 (yR a) _)) _) (by first | exact zS1 | exact mC (yR b) _) ⟨by omega,by omega⟩) rfl ?_;repeat (first | refine zG ?_ | refine zH ?_ | refine dC0 ?_)
   refine zC (zN (zA (yN zL [] 1100 ?_)));exact zS (x.next (yR a) (yR b) (by omega)) ⟨(by first | exact trivial | (repeat (first | exact trivial | exact Sub.refl _ | refine ⟨?_,?_⟩ | exact Sub.int (by first | rfl | omega | (push_cast;omega)) | exact Sub.nilSl | exact Sub.own rfl | exact Sub.slrSl rfl | exact Sub.ownSl (List.map_append).symm | exact Sub.ownSl rfl | exact Sub.int (by (try simp only [Int.toNat_natCast,qL0 x.lo]);(try rw [show Int.toNat 0 = (lim b).getD x.k 0 from (jN (by omega)).symm]);rfl)))),⟨SubO.mr (by (try simp only [Int.toNat_natCast,qL0 x.lo]);(try rw [show Int.toNat 0 = (lim b).getD x.k 0 from (jN (by omega)).symm]);exact zH0 x.lo (by omega)),yI⟩,rfl,rfl⟩ (by show (lim a).length - (x.k + 1) < (lim a).length - x.k;omega)
  ·
   refine zK (zA ?_);refine zE zL [] 1000 rfl ?_;repeat (first | refine zG ?_ | refine zH ?_ | refine dC0 ?_)
   refine zR _ (bC _ _ _ (mC (tT0 x.lg (pW0 (yR a) _)) _) (by first | exact zS1 | exact mC (yR b) _) ⟨by omega,by omega⟩) rfl ?_;repeat (first | refine zG ?_ | refine zH ?_ | refine dC0 ?_)
   refine zC (zN (zA (yN zL [] 1100 ?_)));exact zS (x.next (yR a) (yR b) (by omega)) ⟨(by first | exact trivial | (repeat (first | exact trivial | exact Sub.refl _ | refine ⟨?_,?_⟩ | exact Sub.int (by first | rfl | omega | (push_cast;omega)) | exact Sub.nilSl | exact Sub.own rfl | exact Sub.slrSl rfl | exact Sub.ownSl (List.map_append).symm | exact Sub.ownSl rfl | exact Sub.int (by (try simp only [Int.toNat_natCast,qL0 x.lo]);(try rw [show Int.toNat 0 = (lim b).getD x.k 0 from (jN (by omega)).symm]);rfl)))),⟨SubO.mr (by (try simp only [Int.toNat_natCast,qL0 x.lo]);(try rw [show Int.toNat 0 = (lim b).getD x.k 0 from (jN (by omega)).symm]);exact zH0 x.lo (by omega)),yI⟩,rfl,rfl⟩ (by show (lim a).length - (x.k + 1) < (lim a).length - x.k;omega)
 ·
  refine yF (zZ (yA (zW (zA ?_))));refine uM 101 rfl (by repeat (first | exact trivial | exact hm | refine ⟨?_,?_⟩)) (by repeat (first | exact trivial | refine ⟨?_,?_⟩)) ?_;refine zB (zE zL [] 1200 rfl ?_);refine zF ?_;refine zR _ ((jD x.o x.lg (by omega)).args ⟨SubP.ownSl (by show List.map uD _ = _;rw [List.drop_of_length_le (by omega),List.append_nil]),trivial⟩) rfl ?_;refine zF ?_;refine zC (zA (zM ?_));have e := x.fin (by omega) (qV hle) (by rw [uY,uY];exact hle);rw [uY,uY] at e;exact FinV.ret rfl (SubP.of_eq (by rw [e]))
theorem tQ0 {o : List Nat} {j y : Nat} (h : j < o.length) : VL (o.set j y) + 4294967296 ^ j * o.getD j 0 = VL o + 4294967296 ^ j * y := by
 induction o generalizing j with
 | nil => cases h
 | cons d o ih =>
  cases j with
  | zero => simp [uE];omega
  | succ j =>
   have h1 := ih (j := j) (by simpa using h);rw [List.set_cons_succ,uE,uE,List.getD_cons_succ,Nat.pow_succ];generalize 4294967296 ^ j = B at *;have e1 : B * 4294967296 * o.getD j 0 = 4294967296 * (B * o.getD j 0) := by rw [Nat.mul_comm B,Nat.mul_assoc]
   have e2 : B * 4294967296 * y = 4294967296 * (B * y) := by rw [Nat.mul_comm B,Nat.mul_assoc]
   omega
theorem dE {o : List Nat} {n : Nat} (h : VL (o.drop n) = 0) : o.getD n 0 = 0 ∧ VL (o.drop (n + 1)) = 0 := by
 rcases Nat.lt_or_ge n o.length with h1 | h1
 ·rw [List.drop_eq_getElem_cons h1,uE] at h;rw [qL h1];omega
 ·rw [jN h1,List.drop_of_length_le (by omega)];exact ⟨rfl,rfl⟩
structure MuO (a b : List Nat) where
 i : Nat
 o : List Nat
 eq : VL o = VL (a.take i) * VL b
 lo : o.length = a.length + b.length
 lg : Lg o
 hz : VL (o.drop (i + b.length)) = 0
 le : i ≤ a.length
structure MuI (a b : List Nat) (i : Nat) where
 k : Nat
 c : Nat
 o : List Nat
 eq : VL o + c * 4294967296 ^ (i + k) = VL (a.take i) * VL b + 4294967296 ^ i * (a.getD i 0 * VL (b.take k))
 lo : o.length = a.length + b.length
 lg : Lg o
 hz : VL (o.drop (i + b.length)) = 0
 hc : c < 4294967296
 le : k ≤ b.length
def MuO.start (a b : List Nat) : MuO a b := ⟨0,List.replicate (a.length + b.length) 0,by simp [VL,vR0],by simp,bE _,by rw [List.drop_replicate,vR0],Nat.zero_le _⟩
def MuI.start {a b : List Nat} (x : MuO a b) : MuI a b x.i := ⟨0,0,x.o,by simp [VL,x.eq],x.lo,x.lg,x.hz,by decide,Nat.zero_le _⟩
def MuI.s {a b : List Nat} {i : Nat} (x : MuI a b i) : Nat := x.c + a.getD i 0 * b.getD x.k 0 + x.o.getD (i + x.k) 0
theorem dR {x y : Nat} (hx : x < 4294967296) (hy : y < 4294967296) : x * y ≤ 18446744065119617025 := Nat.mul_le_mul (show x ≤ 4294967295 by omega) (show y ≤ 4294967295 by omega)
theorem MuI.s_lt {a b : List Nat} {i : Nat} (x : MuI a b i) (ha : Lg a) (hb : Lg b) : x.s < 18446744073709551616 := by
 have h1 := dR (yY ha i) (yY hb x.k);have h2 := yY x.lg (i + x.k);have h3 := x.hc;unfold MuI.s;omega
theorem mul_step {a b o : List Nat} {i k c s : Nat} (h : VL o + c * 4294967296 ^ (i + k) = VL (a.take i) * VL b + 4294967296 ^ i * (a.getD i 0 * VL (b.take k))) (hj : i + k < o.length) (hs : s = c + a.getD i 0 * b.getD k 0 + o.getD (i + k) 0) :
  VL (o.set (i + k) (s % 4294967296)) + s / 4294967296 * 4294967296 ^ (i + (k + 1)) = VL (a.take i) * VL b + 4294967296 ^ i * (a.getD i 0 * VL (b.take (k + 1))) := by
 have h1 := tQ0 (y := s % 4294967296) hj;have e0 : 4294967296 ^ i * (a.getD i 0 * VL (b.take (k + 1))) = 4294967296 ^ i * (a.getD i 0 * VL (b.take k)) + 4294967296 ^ (i + k) * (a.getD i 0 * b.getD k 0) := by
  rw [qF b,Nat.mul_add,Nat.mul_add,Nat.pow_add];congr 1;rw [Nat.mul_assoc];congr 1;rw [← Nat.mul_assoc,← Nat.mul_assoc,Nat.mul_comm (a.getD i 0)]
 rw [e0,← Nat.add_assoc i k 1,Nat.pow_succ];generalize 4294967296 ^ (i + k) = B at *;generalize 4294967296 ^ i * (a.getD i 0 * VL (b.take k)) = R at *;generalize VL (a.take i) * VL b = Q at *;generalize a.getD i 0 * b.getD k 0 = M at *;have e : s = 4294967296 * (s / 4294967296) + s % 4294967296 := (Nat.div_add_mod s 4294967296).symm;have e2 : B * s = B * (4294967296 * (s / 4294967296)) + B * (s % 4294967296) := by rw [← Nat.mul_add,← e]
 have e3 : B * s = B * c + B * M + B * o.getD (i + k) 0 := by rw [hs,Nat.mul_add,Nat.mul_add]
 have e4 : s / 4294967296 * (B * 4294967296) = B * (4294967296 * (s / 4294967296)) := by rw [Nat.mul_comm,Nat.mul_assoc]
 have e5 : c * B = B * c := Nat.mul_comm _ _;omega
def MuI.next {a b : List Nat} {i : Nat} (x : MuI a b i) (ha : Lg a) (hb : Lg b) (hi : i < a.length) (h : x.k < b.length) : MuI a b i := ⟨x.k + 1,x.s / 4294967296,x.o.set (i + x.k) (x.s % 4294967296),mul_step x.eq (by rw [x.lo];omega) rfl,by rw [List.length_set,x.lo],x.lg.set _ (Nat.mod_lt _ (by decide)),by rw [List.drop_set_of_lt (by omega)];exact x.hz,by have := x.s_lt ha hb;omega,h⟩
def MuI.fin {a b : List Nat} {i : Nat} (x : MuI a b i) (hi : i < a.length) (h : b.length ≤ x.k) : MuO a b := ⟨i + 1,x.o.set (i + b.length) x.c,by
 have hk := x.le;have e : x.k = b.length := by omega
 have h1 := x.eq;have h2 := tQ0 (o := x.o) (j := i + b.length) (y := x.c) (by rw [x.lo];omega);rw [(dE x.hz).1] at h2;rw [e,List.take_of_length_le (Nat.le_refl _)] at h1;rw [qF a,Nat.add_mul];have e5 : x.c * 4294967296 ^ (i + b.length) = 4294967296 ^ (i + b.length) * x.c := Nat.mul_comm _ _;rw [Nat.mul_assoc];omega,by rw [List.length_set,x.lo],x.lg.set _ x.hc,by
 rw [List.drop_set_of_lt (by omega),show i + 1 + b.length = i + b.length + 1 by omega];exact (dE x.hz).2,hi⟩
theorem MuO.fin {a b : List Nat} (x : MuO a b) (h : a.length ≤ x.i) : VL x.o = VL a * VL b := by rw [x.eq,List.take_of_length_le h]
structure Sho (a : List Nat) (d : Nat) where
 k : Nat
 r : Nat
 o : List Nat
 eq : VL (o.drop k) * d + r = VL (a.drop k)
 lo : o.length = a.length
 lg : Lg o
 hr : r < d
 le : k ≤ a.length
def Sho.start (a : List Nat) {d : Nat} (h : 0 < d) : Sho a d := ⟨a.length,0,List.replicate a.length 0,by rw [List.drop_replicate,Nat.sub_self,List.drop_of_length_le (Nat.le_refl _)];simp [VL],by simp,bE _,h,Nat.le_refl _⟩
def Sho.s {a : List Nat} {d : Nat} (x : Sho a d) : Nat := x.r * 4294967296 + a.getD (x.k - 1) 0
theorem Sho.s_lt {a : List Nat} {d : Nat} (x : Sho a d) (ha : Lg a) (hd : d < 4294967296) : x.s / d < 4294967296 := by
 have h1 := yY ha (x.k - 1);have h2 := x.hr;rw [Nat.div_lt_iff_lt_mul (by omega)];unfold Sho.s;have : x.r * 4294967296 + 4294967296 ≤ d * 4294967296 := by omega
 omega
def Sho.next {a : List Nat} {d : Nat} (x : Sho a d) (ha : Lg a) (hd : d < 4294967296) (h : 0 < x.k) : Sho a d := ⟨x.k - 1,x.s % d,x.o.set (x.k - 1) (x.s / d),by
 have hk := x.le;have hl := x.lo;have h1 := x.eq;have e := Nat.div_add_mod x.s d;rw [List.drop_eq_getElem_cons (by rw [List.length_set];omega),List.drop_eq_getElem_cons (l := a) (by omega),uE,uE,List.getElem_set_self,show x.k - 1 + 1 = x.k by omega,List.drop_set_of_lt (by omega),← h1,← qL (by omega : x.k - 1 < a.length)];rw [Nat.add_mul,Nat.mul_comm (x.s / d),Nat.mul_assoc];rw [Nat.mul_add];unfold Sho.s at *;generalize VL (x.o.drop x.k) * d = Q at *;omega,by rw [List.length_set,x.lo],x.lg.set _ (x.s_lt ha hd),Nat.mod_lt _ (by have := x.hr;omega),by have := x.le;omega⟩
theorem Sho.fin {a : List Nat} {d : Nat} (x : Sho a d) (h : x.k = 0) : VL x.o = VL a / d ∧ x.r = VL a % d := by
 have h1 := x.eq;have h2 := x.hr;rw [h,List.drop_zero,List.drop_zero] at h1;have hd : 0 < d := by omega
 rw [← h1];constructor
 ·rw [Nat.mul_comm,Nat.mul_add_div hd,Nat.div_eq_of_lt h2,Nat.add_zero]
 ·rw [Nat.mul_comm,Nat.mul_add_mod,Nat.mod_eq_of_lt h2]
variable {md me : Bool}
theorem hi32 {e : Int} {s : Nat} (h : e = (s : Int)) : Int.fdiv e (2 ^ min (Int.toNat 32) IntKind.u64.bits) = ((s / 4294967296 : Nat) : Int) := by rw [h];exact dW (by decide)
theorem lo32 {e : Int} {s : Nat} (h : e = (s : Int)) : IntKind.u32.wrap e = ((s % 4294967296 : Nat) : Int) := by
 rw [h];simp only [IntKind.wrap,IntKind.signed,IntKind.bits,Bool.false_and,Bool.false_eq_true,if_false];omega
theorem vF {l : List Nat} {y : Nat} {e : Int} (h : e = (y : Int)) : l.map uD ++ [[.v (.int .u32 e)]] = (l ++ [y]).map uD := by rw [List.map_append,h];rfl
theorem qQ0 {a b : List Nat} (x : PlL a b) {e : Int} (h : e = (x.c : Int) + ((a.getD x.k 0 : Nat) : Int) + ((b.getD x.k 0 : Nat) : Int)) : e = ((x.s : Nat) : Int) := by
 rw [h];unfold PlL.s;omega
theorem natAdd0_ok (a b : Nat) (ha : (lim a).length ≤ 100000) (hb : (lim b).length ≤ 100000) : Fn Tryz.prog 247 [usD (lim a),usD (lim b)] (usD (lim (a + b))) := by
 refine yG zL Tryz.func247 rfl rfl rfl rfl rfl rfl ?_;intro w0 s0 mx;refine zJ 100 ?_;refine zB (zJ 200 ?_);refine zX (fun c1 => ?_) (fun c1 => ?_)
 ·
  refine yN zL [] 300 ?_;refine zA (ev_R zL [1019] 400 ?_);refine uM 303 rfl (by repeat (first | exact trivial | exact rfl | refine ⟨?_,?_⟩)) (by repeat (first | exact trivial | refine ⟨?_,?_⟩)) ?_;refine zJ 500 ?_;refine zB (zJ 600 ?_);refine zP ?_;refine yB (ι := PlL (lim b) (lim a)) [1,20,21] [] 650 (fun x => [(22,.v (.int .i64 (x.k : Nat))),(6,.v (.int .u64 (x.c : Nat))),(5,.own 303 1 (x.o.map uD))]) (fun x => [(303,.row 126 1 (x.o.map uD).length)]) (fun x => (lim b).length - x.k) (PlL.start _ _) ?_;refine ⟨⟨yL,yI,rfl,rfl⟩,fun x => ?_⟩;have hk := x.le;have hk2 := x.lo;have hk3 := x.hc;have hk4 := yY (yR b) x.k;have hk5 := yY (yR a) x.k;refine zJ 700 ?_;refine zB (zX (fun c6 => ?_) (fun c6 => ?_))
  ·
   refine zK (zA (zB (zP (zJ 800 ?_))));refine zJ 900 ?_;refine zB (zJ 1000 ?_);refine zX (fun c9 => ?_) (fun c9 => ?_)
   ·
    refine yN zL [] 1100 ?_;refine zA (zJ 1200 ?_);refine yN zL [] 1300 ?_;refine zN (zA (yN zL [] 1400 ?_));have zb := @jN (lim a) x.k;exact zS (x.next (yR b) (yR a) (by omega)) ⟨(by first | exact trivial | (repeat (first | exact trivial | exact Sub.refl _ | refine ⟨?_,?_⟩ | exact Sub.int (by first | rfl | omega | (push_cast;omega)) | exact Sub.nilSl | exact Sub.own rfl | exact Sub.slrSl rfl | exact Sub.ownSl (List.map_append).symm | exact Sub.ownSl rfl | exact Sub.int (by show (x.k : Int) + 1 = ((x.k + 1 : Nat) : Int);omega) | exact Sub.int (hi32 (qQ0 x (by (try simp only [Int.toNat_natCast]);simp only [IntKind.wrap,IntKind.signed,IntKind.bits,Bool.false_and,Bool.false_eq_true,if_false];omega))) | exact Sub.own (vF (lo32 (qQ0 x (by (try simp only [Int.toNat_natCast]);simp only [IntKind.wrap,IntKind.signed,IntKind.bits,Bool.false_and,Bool.false_eq_true,if_false];omega))))))),(by repeat (first | exact trivial | exact SubO.same rfl | exact ⟨rfl,rfl,by show _ = (List.map uD (x.o ++ _)).length;simp⟩ | refine ⟨?_,?_⟩)),rfl,rfl⟩ (by show (lim b).length - (x.k + 1) < (lim b).length - x.k;omega)
   ·
    refine zK (zA (zJ 1200 ?_));refine yN zL [] 1300 ?_;refine zN (zA (yN zL [] 1400 ?_));have zb := @jN (lim a) x.k;exact zS (x.next (yR b) (yR a) (by omega)) ⟨(by first | exact trivial | (repeat (first | exact trivial | exact Sub.refl _ | refine ⟨?_,?_⟩ | exact Sub.int (by first | rfl | omega | (push_cast;omega)) | exact Sub.nilSl | exact Sub.own rfl | exact Sub.slrSl rfl | exact Sub.ownSl (List.map_append).symm | exact Sub.ownSl rfl | exact Sub.int (by show (x.k : Int) + 1 = ((x.k + 1 : Nat) : Int);omega) | exact Sub.int (hi32 (qQ0 x (by (try simp only [Int.toNat_natCast]);simp only [IntKind.wrap,IntKind.signed,IntKind.bits,Bool.false_and,Bool.false_eq_true,if_false];omega))) | exact Sub.own (vF (lo32 (qQ0 x (by (try simp only [Int.toNat_natCast]);simp only [IntKind.wrap,IntKind.signed,IntKind.bits,Bool.false_and,Bool.false_eq_true,if_false];omega))))))),(by repeat (first | exact trivial | exact SubO.same rfl | exact ⟨rfl,rfl,by show _ = (List.map uD (x.o ++ _)).length;simp⟩ | refine ⟨?_,?_⟩)),rfl,rfl⟩ (by show (lim b).length - (x.k + 1) < (lim b).length - x.k;omega)
  ·
   refine yF (zZ (yA (zW (zA ?_))));refine zB (zE zL [] 1500 rfl ?_);refine zF ?_;refine zR _ ((jD (x.o ++ [x.c]) (x.lg.snoc (by omega)) (by simp;omega)).args ⟨SubP.ownSl (vF (by simp only [IntKind.wrap,IntKind.signed,IntKind.bits,Bool.false_and,Bool.false_eq_true,if_false];omega)),trivial⟩) rfl ?_;refine zF ?_;refine zC (zA (zM ?_));have e := (x.fin (by omega) (by omega)).1;rw [uY,uY] at e;exact FinV.ret rfl (SubP.of_eq (by rw [e];(try rw [Nat.add_comm])))
 ·
  refine zK (zA (ev_R zL [1019] 400 ?_));refine uM 203 rfl (by repeat (first | exact trivial | exact rfl | refine ⟨?_,?_⟩)) (by repeat (first | exact trivial | refine ⟨?_,?_⟩)) ?_;refine zJ 500 ?_;refine zB (zJ 600 ?_);refine zP ?_;refine yB (ι := PlL (lim a) (lim b)) [1,20,21] [] 650 (fun x => [(22,.v (.int .i64 (x.k : Nat))),(6,.v (.int .u64 (x.c : Nat))),(5,.own 203 1 (x.o.map uD))]) (fun x => [(203,.row 126 1 (x.o.map uD).length)]) (fun x => (lim a).length - x.k) (PlL.start _ _) ?_;refine ⟨⟨yL,yI,rfl,rfl⟩,fun x => ?_⟩;have hk := x.le;have hk2 := x.lo;have hk3 := x.hc;have hk4 := yY (yR a) x.k;have hk5 := yY (yR b) x.k;refine zJ 700 ?_;refine zB (zX (fun c6 => ?_) (fun c6 => ?_))
  ·
   refine zK (zA (zB (zP (zJ 800 ?_))));refine zJ 900 ?_;refine zB (zJ 1000 ?_);refine zX (fun c9 => ?_) (fun c9 => ?_)
   ·
    refine yN zL [] 1100 ?_;refine zA (zJ 1200 ?_);refine yN zL [] 1300 ?_;refine zN (zA (yN zL [] 1400 ?_));have zb := @jN (lim b) x.k;exact zS (x.next (yR a) (yR b) (by omega)) ⟨(by first | exact trivial | (repeat (first | exact trivial | exact Sub.refl _ | refine ⟨?_,?_⟩ | exact Sub.int (by first | rfl | omega | (push_cast;omega)) | exact Sub.nilSl | exact Sub.own rfl | exact Sub.slrSl rfl | exact Sub.ownSl (List.map_append).symm | exact Sub.ownSl rfl | exact Sub.int (by show (x.k : Int) + 1 = ((x.k + 1 : Nat) : Int);omega) | exact Sub.int (hi32 (qQ0 x (by (try simp only [Int.toNat_natCast]);simp only [IntKind.wrap,IntKind.signed,IntKind.bits,Bool.false_and,Bool.false_eq_true,if_false];omega))) | exact Sub.own (vF (lo32 (qQ0 x (by (try simp only [Int.toNat_natCast]);simp only [IntKind.wrap,IntKind.signed,IntKind.bits,Bool.false_and,Bool.false_eq_true,if_false];omega))))))),(by repeat (first | exact trivial | exact SubO.same rfl | exact ⟨rfl,rfl,by show _ = (List.map uD (x.o ++ _)).length;simp⟩ | refine ⟨?_,?_⟩)),rfl,rfl⟩ (by show (lim a).length - (x.k + 1) < (lim a).length - x.k;omega)
   ·
    refine zK (zA (zJ 1200 ?_));refine yN zL [] 1300 ?_;refine zN (zA (yN zL [] 1400 ?_));have zb := @jN (lim b) x.k;exact zS (x.next (yR a) (yR b) (by omega)) ⟨(by first | exact trivial | (repeat (first | exact trivial | exact Sub.refl _ | refine ⟨?_,?_⟩ | exact Sub.int (by first | rfl | omega | (push_cast;omega)) | exact Sub.nilSl | exact Sub.own rfl | exact Sub.slrSl rfl | exact Sub.ownSl (List.map_append).symm | exact Sub.ownSl rfl | exact Sub.int (by show (x.k : Int) + 1 = ((x.k + 1 : Nat) : Int);omega) | exact Sub.int (hi32 (qQ0 x (by (try simp only [Int.toNat_natCast]);simp only [IntKind.wrap,IntKind.signed,IntKind.bits,Bool.false_and,Bool.false_eq_true,if_false];omega))) | exact Sub.own (vF (lo32 (qQ0 x (by (try simp only [Int.toNat_natCast]);simp only [IntKind.wrap,IntKind.signed,IntKind.bits,Bool.false_and,Bool.false_eq_true,if_false];omega))))))),(by repeat (first | exact trivial | exact SubO.same rfl | exact ⟨rfl,rfl,by show _ = (List.map uD (x.o ++ _)).length;simp⟩ | refine ⟨?_,?_⟩)),rfl,rfl⟩ (by show (lim a).length - (x.k + 1) < (lim a).length - x.k;omega)
  ·
   refine yF (zZ (yA (zW (zA ?_))));refine zB (zE zL [] 1500 rfl ?_);refine zF ?_;refine zR _ ((jD (x.o ++ [x.c]) (x.lg.snoc (by omega)) (by simp;omega)).args ⟨SubP.ownSl (vF (by simp only [IntKind.wrap,IntKind.signed,IntKind.bits,Bool.false_and,Bool.false_eq_true,if_false];omega)),trivial⟩) rfl ?_;refine zF ?_;refine zC (zA (zM ?_));have e := (x.fin (by omega) (by omega)).1;rw [uY,uY] at e;exact FinV.ret rfl (SubP.of_eq (by rw [e];(try rw [Nat.add_comm])))
theorem pX0 (n : Nat) : (MR.map (List.replicate n ()) (fun _ => jM [.int .u32 0]) ()).rows = (MR.map (List.replicate n 0) uD 0).rows := by
 simp only [MR.rows,List.map_replicate];rfl
theorem dM (o : List Nat) (j v : Nat) : (MR.upd (.map o uD 0) j (uD v)).rows = (MR.map (o.set j v) uD 0).rows := by
 simp only [MR.rows,List.map_set]
theorem w64 {n : Nat} (h : n < 18446744073709551616) : IntKind.u64.wrap (n : Int) = (n : Int) := by
 simp only [IntKind.wrap,IntKind.signed,IntKind.bits,Bool.false_and,Bool.false_eq_true,if_false];omega
theorem w32n {n : Nat} (h : n < 4294967296) : IntKind.u32.wrap (n : Int) = (n : Int) := by
 simp only [IntKind.wrap,IntKind.signed,IntKind.bits,Bool.false_and,Bool.false_eq_true,if_false];omega
theorem muI_s {a b : List Nat} {i : Nat} (y : MuI a b i) (ha : Lg a) (hb : Lg b) : IntKind.u64.wrap ((y.c : Int) + IntKind.u64.wrap (IntKind.u64.wrap (IntKind.u64.wrap ((a.getD i 0 : Nat) : Int) * IntKind.u64.wrap ((b.getD y.k 0 : Nat) : Int)) + IntKind.u64.wrap ((y.o.getD (i + y.k) 0 : Nat) : Int))) = ((y.s : Nat) : Int) := by
 have h0 := y.s_lt ha hb;have h1 := yY ha i;have h2 := yY hb y.k;have h3 := yY y.lg (i + y.k);have h4 := dR h1 h2;have h5 := y.hc;unfold MuI.s at *;rw [w64 (n := a.getD i 0) (by omega),w64 (n := b.getD y.k 0) (by omega),w64 (n := y.o.getD (i + y.k) 0) (by omega),← Int.natCast_mul,w64 (n := a.getD i 0 * b.getD y.k 0) (by omega),← Int.natCast_add,w64 (n := a.getD i 0 * b.getD y.k 0 + y.o.getD (i + y.k) 0) (by omega),← Int.natCast_add,w64 (by omega)];congr 1;omega
theorem tX0 {P : Program} {E : Pn} {K : DS → Prop} {p : Prop} {r : Out} (hr : r.sat P E K) (hp : p := by first | exact ⟨hm2,by rw [← hm2];omega⟩ | exact ⟨hm2,by omega⟩ | exact ⟨hm,by rw [← hm];omega⟩ | exact ⟨hm,by omega⟩ | first | exact trivial | omega | exact ini (by omega) (by omega) | (intro hh;simp at hh;exact ini (by omega) (by omega)) | (intro hh;simp at hh ⊢;omega) | (simp at *;omega) | (simp_all;done)) : (Out.need p r).sat P E K := ⟨hp,hr⟩
theorem natMul0_ok (a b : Nat) (ha : (lim a).length ≤ 100000) (hb : (lim b).length ≤ 100000) : Fn Tryz.prog 209 [usD (lim a),usD (lim b)] (usD (lim (a * b))) := by
 refine yG zL Tryz.func209 rfl rfl rfl rfl rfl rfl ?_;intro w0 s0 mx;refine zJ 100 ?_;refine ev_R zL [1016] 200 ?_;refine qZ [0,1] [] 210 [(5,.mo 105 ((lim a).length + (lim b).length))] [(105,.mrow 126 1 (.map (List.replicate ((lim a).length + (lim b).length) 0) uD 0))] ?_;refine ⟨⟨⟨Sub.mo (by omega),yL⟩,⟨SubO.mr (by rw [pX0];congr 3),yI⟩,rfl,rfl⟩,?_⟩;refine zB (zJ 300 ?_);refine zP ?_;refine yB (ι := MuO (lim a) (lim b)) [1,5,17,18] [] 350 (fun x => [(19,.v (.int .i64 (x.i : Nat)))]) (fun x => [(105,.mrow 126 1 (.map x.o uD 0))]) (fun x => (lim a).length - x.i) (MuO.start _ _) ?_;refine ⟨⟨yL,yI,rfl,rfl⟩,fun x => ?_⟩;have hk := x.le;have hlo := x.lo;have hm : ((lim a).length + (lim b).length) = (MR.map x.o uD 0).len := by rw [MR.len,hlo]
 refine zJ 400 ?_;refine zB (zX (fun c3 => ?_) (fun c3 => ?_))
 ·
  refine zK (zA (zB (zP (zJ 500 ?_))));refine zJ 600 ?_;refine zB (zJ 700 ?_);refine zP ?_;refine yB (ι := MuI (lim a) (lim b) x.i) [1,5,6,7,17,18,19,24,25] [] 750 (fun y => [(26,.v (.int .i64 (y.k : Nat))),(8,.v (.int .u64 (y.c : Nat)))]) (fun y => [(105,.mrow 126 1 (.map y.o uD 0))]) (fun y => (lim b).length - y.k) (MuI.start x) ?_;refine ⟨⟨yL,yI,rfl,rfl⟩,fun y => ?_⟩;have hky := y.le;have hly := y.lo;have hm2 : ((lim a).length + (lim b).length) = (MR.map y.o uD 0).len := by rw [MR.len,hly]
  have hj : ((x.i : Int) + (y.k : Int)).toNat = x.i + y.k := by omega
  have es := muI_s y (yR a) (yR b);refine zJ 800 ?_;refine zB (zX (fun c7 => ?_) (fun c7 => ?_))
  ·
   refine zK (zA (zB (zP (zJ 900 ?_))));refine zB (zE zL [] 1000 rfl ?_);repeat (first | refine zG ?_ | refine zH ?_ | refine tX0 ?_)
   refine zC (zA ?_);refine zB (zE zL [] 1100 rfl ?_);repeat (first | refine zG ?_ | refine zH ?_ | refine tX0 ?_)
   refine zC (zA (yN zL [] 1200 ?_));refine zN (zA (yN zL [] 1300 ?_));exact zS (y.next (yR a) (yR b) (by omega) (by omega)) ⟨(by first | exact trivial | (repeat (first | exact trivial | exact Sub.refl _ | refine ⟨?_,?_⟩ | exact Sub.int (by first | rfl | omega | (push_cast;omega)) | exact Sub.nilSl | exact Sub.own rfl | exact Sub.slrSl rfl | exact Sub.ownSl (List.map_append).symm | exact Sub.ownSl rfl | exact Sub.int (by show (y.k : Int) + 1 = ((y.k + 1 : Nat) : Int);omega) | exact Sub.int (by (try simp only [hj,Int.toNat_natCast]);rw [es];exact hi32 rfl)))),⟨SubO.mr (by (try simp only [hj,Int.toNat_natCast]);rw [es,lo32 rfl];exact dM _ _ _),yI⟩,rfl,rfl⟩ (by show (lim b).length - (y.k + 1) < (lim b).length - y.k;omega)
  ·
   refine yF (zZ (yA (zW (zA ?_))));refine zE zL [] 1400 rfl ?_;repeat (first | refine zG ?_ | refine zH ?_ | refine tX0 ?_)
   refine zC (zN (zA (yN zL [] 1500 ?_)));exact zS (y.fin (by omega) (by omega)) ⟨(by first | exact trivial | (repeat (first | exact trivial | exact Sub.refl _ | refine ⟨?_,?_⟩ | exact Sub.int (by first | rfl | omega | (push_cast;omega)) | exact Sub.nilSl | exact Sub.own rfl | exact Sub.slrSl rfl | exact Sub.ownSl (List.map_append).symm | exact Sub.ownSl rfl | exact Sub.int (by show (x.i : Int) + 1 = ((x.i + 1 : Nat) : Int);omega)))),⟨SubO.mr (by have hj : ((x.i : Int) + ((lim b).length : Int)).toNat = x.i + (lim b).length := (by omega);(try simp only [hj]);rw [w32n y.hc];exact dM _ _ _),yI⟩,rfl,rfl⟩ (by show (lim a).length - (x.i + 1) < (lim a).length - x.i;omega)
 ·
  refine yF (zZ (yA (zW (zA ?_))));refine uM 105 rfl (by repeat (first | exact trivial | exact hm | refine ⟨?_,?_⟩)) (by repeat (first | exact trivial | refine ⟨?_,?_⟩)) ?_;refine zB (zE zL [] 1600 rfl ?_);refine zF ?_;refine zR _ ((jD x.o x.lg (by omega)).args ⟨SubP.ownSl rfl,trivial⟩) rfl ?_;refine zF ?_;refine zC (zA (zM ?_));have e := x.fin (by omega);rw [uY,uY] at e;exact FinV.ret rfl (SubP.of_eq (by rw [e]))
theorem or64 {h l : Nat} (hh : h < 4294967296) (hl : l < 4294967296) : bOr .u64 (IntKind.u64.wrap (IntKind.u64.wrap (h : Int) * 2 ^ min (Int.toNat 32) IntKind.u64.bits)) (IntKind.u64.wrap (l : Int)) = ((h * 4294967296 + l : Nat) : Int) := by
 rw [show ((2 : Int) ^ min (Int.toNat 32) IntKind.u64.bits) = ((4294967296 : Nat) : Int) by decide,w64 (n := h) (by omega),w64 (n := l) (by omega),← Int.natCast_mul,w64 (n := h * 4294967296) (by omega)];show IntKind.u64.wrap ((BitVec.ofInt 64 ((h * 4294967296 : Nat) : Int) ||| BitVec.ofInt 64 ((l : Nat) : Int)).toNat : Int) = _;rw [BitVec.ofInt_natCast,BitVec.ofInt_natCast,BitVec.toNat_or,BitVec.toNat_ofNat,BitVec.toNat_ofNat,Nat.mod_eq_of_lt (by omega),Nat.mod_eq_of_lt (by omega)];have e := Nat.two_pow_add_eq_or_of_lt (i := 32) (b := l) (by simpa using hl) h;rw [show (2 : Nat) ^ 32 = 4294967296 by decide,Nat.mul_comm 4294967296 h] at e;rw [← e,w64 (by omega)]
theorem div32_ok {h l d : Int} (hh : I32 h) (hl : I32 l) (hd : I32 d) (hlt : h < d) :
  bOr .u64 (IntKind.u64.wrap (IntKind.u64.wrap h * 2 ^ min (Int.toNat 32) IntKind.u64.bits)) (IntKind.u64.wrap l) = ((h.toNat * 4294967296 + l.toNat : Nat) : Int) ∧ IntKind.u64.wrap d = ((d.toNat : Nat) : Int) ∧ (h.toNat * 4294967296 + l.toNat) / d.toNat < 4294967296 ∧ (h.toNat * 4294967296 + l.toNat) % d.toNat < 4294967296 := by
 obtain ⟨h,rfl⟩ := Int.eq_ofNat_of_zero_le hh.1;obtain ⟨l,rfl⟩ := Int.eq_ofNat_of_zero_le hl.1;obtain ⟨d,rfl⟩ := Int.eq_ofNat_of_zero_le hd.1;have h1 := hh.2;have h2 := hl.2;have h3 := hd.2;simp only [Int.toNat_natCast];refine ⟨or64 (by omega) (by omega),w64 (by omega),?_,?_⟩
 ·rw [Nat.div_lt_iff_lt_mul (by omega)];omega
 ·exact Nat.lt_of_lt_of_le (Nat.mod_lt _ (by omega)) (by omega)
theorem dB0 {P : Program} {E : Pn} {K : DS → Prop} {p : Prop} {r : Out} (hr : r.sat P E K) (hp : p := by first | (rw [e2];omega) | first | exact trivial | omega | exact ini (by omega) (by omega) | (intro hh;simp at hh;exact ini (by omega) (by omega)) | (intro hh;simp at hh ⊢;omega) | (simp at *;omega) | (simp_all;done)) : (Out.need p r).sat P E K := ⟨hp,hr⟩
theorem Div32_ok (h l d : Int) (hh : I32 h) (hl : I32 l) (hd : I32 d) (hlt : h < d) : Fn Tryz.prog 261 [.v (.int .u32 h),.v (.int .u32 l),.v (.int .u32 d)] (.tup [.v (.int .u32 ((h.toNat * 4294967296 + l.toNat) / d.toNat : Nat)),.v (.int .u32 ((h.toNat * 4294967296 + l.toNat) % d.toNat : Nat))]) := by
 obtain ⟨e1,e2,e3,e4⟩ := div32_ok hh hl hd hlt;have hd0 : 0 < d := by have := hh.1;omega
 refine yG zL Tryz.func261 rfl rfl rfl rfl rfl rfl ?_;intro w0 s0 mx;refine zB (zE zL [] 100 rfl ?_);repeat (first | refine zG ?_ | refine zH ?_ | refine dB0 ?_)
 refine zC (zA (zB ?_));refine zB (zE zL [] 200 rfl ?_);repeat (first | refine zG ?_ | refine zH ?_ | refine dB0 ?_)
 refine zC (zA (zX (fun c1 => ?_) (fun c1 => ?_)))
 ·
  exact absurd c1 (by simp;omega)
 ·
  refine zK (zA ?_);refine zB (zE zL [] 400 rfl ?_);repeat (first | refine zG ?_ | refine zH ?_ | refine dB0 ?_)
  refine zC (zA ?_);refine zB (yD zL [] [[],[],[1],[0,1,2],[0,1,2,3],[],[],[6],[5,6,7],[5,6,7,8],(rgN 5),(rgN 11)] 500 yU (by kernel_rfl) rfl ?_);repeat (first | refine zG ?_ | refine zH ?_ | refine dB0 ?_)
  refine zC (zA (zM ?_));exact FinV.ret rfl (SubP.tup ⟨SubP.int (by rw [e1,e2,← Int.ofNat_tdiv,w64 (Nat.lt_trans e3 (by decide)),w32n e3]),SubP.int (by rw [e1,e2,← Int.ofNat_tmod,w32n e4]),trivial⟩)
variable {md me : Bool}
theorem qW0 (a b : Nat) (ha : (lim a).length ≤ 600) (hb : (lim b).length ≤ 600) (hab : (lim (a + b)).length ≤ 600) : Fn Tryz.prog 222 [usD (lim a),usD (lim b)] (.tup [usD (lim (a + b)),faD 0 0]) := by
 refine yG zL Tryz.func222 rfl rfl rfl rfl rfl rfl ?_;intro w0 s0 mx;refine zJ 100 ?_;refine zB ?_;refine zB (zE zL [] 200 rfl ?_);refine zF ?_;refine zR _ (uU _ _ (by first | assumption | omega | (simp_all;done)) (by first | assumption | omega | (simp_all;done))) rfl ?_;refine zF ?_;refine zC (zA (zJ 300 ?_));refine zX (fun c2 => ?_) (fun c2 => ?_)
 ·
  exact absurd c2 (by decide)
 ·
  refine zK (zA ?_);refine zB (zE zL [] 500 rfl ?_);refine zF ?_;refine zR _ (natAdd0_ok a b (by omega) (by omega)) rfl ?_;refine zF ?_;refine zR _ (qV0 (lim (a + b)) (yR _) (by omega) (by rw [uY];exact hab)) rfl ?_;refine zF ?_;refine zC (zA (zM ?_));exact FinV.ret rfl (SubP.tup ⟨SubP.of_eq (by rw [uY]),SubP.refl _,trivial⟩)
theorem tA (a b : Nat) (ha : (lim a).length ≤ 600) (hb : (lim b).length ≤ 600) (hab : (lim (a * b)).length ≤ 600) : Fn Tryz.prog 162 [usD (lim a),usD (lim b)] (.tup [usD (lim (a * b)),faD 0 0]) := by
 refine yG zL Tryz.func162 rfl rfl rfl rfl rfl rfl ?_;intro w0 s0 mx;refine zJ 100 ?_;refine zB ?_;refine zB (zE zL [] 200 rfl ?_);refine zF ?_;refine zR _ (uU _ _ (by first | assumption | omega | (simp_all;done)) (by first | assumption | omega | (simp_all;done))) rfl ?_;refine zF ?_;refine zC (zA (zJ 300 ?_));refine zX (fun c2 => ?_) (fun c2 => ?_)
 ·
  exact absurd c2 (by decide)
 ·
  refine zK (zA ?_);refine zB (zE zL [] 500 rfl ?_);refine zF ?_;refine zR _ (natMul0_ok a b (by omega) (by omega)) rfl ?_;refine zF ?_;refine zR _ (qV0 (lim (a * b)) (yR _) (by omega) (by rw [uY];exact hab)) rfl ?_;refine zF ?_;refine zC (zA (zM ?_));exact FinV.ret rfl (SubP.tup ⟨SubP.of_eq (by rw [uY]),SubP.refl _,trivial⟩)
theorem bV (a b : Nat) (ha : (lim a).length ≤ 600) (hb : (lim b).length ≤ 600) (hle : b ≤ a) : Fn Tryz.prog 223 [usD (lim a),usD (lim b)] (.tup [usD (lim (a - b)),faD 0 0]) := by
 have hneg := xV0 a b;refine yG zL Tryz.func223 rfl rfl rfl rfl rfl rfl ?_;intro w0 s0 mx;refine zJ 100 ?_;refine zB ?_;refine zB (zE zL [] 200 rfl ?_);refine zF ?_;refine zR _ (uU _ _ (by first | assumption | omega | (simp_all;done)) (by first | assumption | omega | (simp_all;done))) rfl ?_;refine zF ?_;refine zC (zA (zJ 300 ?_));refine zX (fun c2 => ?_) (fun c2 => ?_)
 ·
  exact absurd c2 (by decide)
 ·
  refine zK (zA (zB ?_));refine zB (zE zL [] 500 rfl ?_);refine zF ?_;refine zR _ (wU a b (by omega) (by omega)) rfl ?_;refine zF ?_;refine zC (zA (zX (fun c4 => ?_) (fun c4 => ?_)))
  ·
   exact absurd c4 (by simp;omega)
  ·
   refine zK (zA ?_);refine zB (zE zL [] 700 rfl ?_);refine zF ?_;refine zR _ (natSub0_ok _ _ (by first | assumption | omega | (simp_all;done)) (by first | assumption | omega | (simp_all;done)) (by first | assumption | omega | (simp_all;done))) rfl ?_;refine zF ?_;refine zC (zA (zM ?_));exact FinV.ret rfl (SubP.refl _)
theorem zD1 {P : Program} {E : Pn} {K : DS → Prop} {p : Prop} {r : Out} (hr : r.sat P E K) (hp : p := by first | exact ⟨hm,by rw [← hm];omega⟩ | exact ⟨hm,by omega⟩ | first | exact trivial | omega | exact ini (by omega) (by omega) | (intro hh;simp at hh;exact ini (by omega) (by omega)) | (intro hh;simp at hh ⊢;omega) | (simp at *;omega) | (simp_all;done)) : (Out.need p r).sat P E K := ⟨hp,hr⟩
theorem natShort_ok (a d : Nat) (ha : (lim a).length ≤ 100000) (h0 : 0 < d) (hd : d < 4294967296) : Fn Tryz.prog 254 [usD (lim a),.v (.int .u32 d)] (.tup [usD (lim (a / d)),.v (.int .u32 (a % d : Nat))]) := by
 refine yG zL Tryz.func254 rfl rfl rfl rfl rfl rfl ?_;intro w0 s0 mx;refine zJ 100 ?_;refine ev_R zL [1011] 200 ?_;refine qZ [0,1] [] 210 [(6,.mo 102 (lim a).length)] [(102,.mrow 126 1 (.map (List.replicate (lim a).length 0) uD 0))] ?_;refine ⟨⟨⟨Sub.mo (by omega),yL⟩,⟨SubO.mr (by rw [pX0];congr 3),yI⟩,rfl,rfl⟩,?_⟩;refine zJ 300 ?_;refine zB (zJ 400 ?_);refine zP ?_;refine yB (ι := Sho (lim a) d) [0,1,6] [] 450 (fun x => [(8,.v (.int .i64 ((x.k : Int) - 1))),(7,.v (.int .u32 (x.r : Nat)))]) (fun x => [(102,.mrow 126 1 (.map x.o uD 0))]) (fun x => x.k) (Sho.start _ h0) ?_;refine ⟨⟨yL,yI,rfl,rfl⟩,fun x => ?_⟩;have hk := x.le;have hlo := x.lo;have hr := x.hr;have hm : (lim a).length = (MR.map x.o uD 0).len := by rw [MR.len,hlo]
 have hkt : ((x.k : Int) - 1).toNat = x.k - 1 := by omega
 refine zB (zJ 500 ?_);refine zX (fun c4 => ?_) (fun c4 => ?_)
 ·
  refine zK (zA (zB (zP ?_)));refine zE zL [] 700 rfl ?_;repeat (first | refine zG ?_ | refine zH ?_ | refine zD1 ?_)
  refine zR _ (Div32_ok _ _ _ ⟨by omega,by omega⟩ (mC (yR a) _) ⟨by omega,by omega⟩ (by omega)) rfl ?_;repeat (first | refine zG ?_ | refine zH ?_ | refine zD1 ?_)
  refine zC (zN (zA (yN zL [] 800 ?_)));have es : x.s = x.r * 4294967296 + (lim a).getD (x.k - 1) 0 := rfl;exact zS (x.next (yR a) hd (by omega)) ⟨⟨Sub.int (by show (x.k : Int) - 1 - 1 = ((x.k - 1 : Nat) : Int) - 1;omega),Sub.int (by simp only [hkt,Int.toNat_natCast];show _ = ((x.s % d : Nat) : Int);rw [es]),yL⟩,⟨SubO.mr (by simp only [hkt,Int.toNat_natCast];show _ = (MR.map (x.o.set (x.k - 1) (x.s / d)) uD 0).rows;rw [es];exact dM _ _ _),yI⟩,rfl,rfl⟩ (by show x.k - 1 < x.k;omega)
 ·
  refine yF (zZ (yA (zW (zA ?_))));refine uM 102 rfl (by repeat (first | exact trivial | exact hm | refine ⟨?_,?_⟩)) (by repeat (first | exact trivial | refine ⟨?_,?_⟩)) ?_;refine zB (zE zL [] 800 rfl ?_);refine zF ?_;refine zR _ ((jD x.o x.lg (by omega)).args ⟨SubP.ownSl rfl,trivial⟩) rfl ?_;refine zF ?_;refine zC (zA (zM ?_));have e := x.fin (by omega);rw [uY] at e;exact FinV.ret rfl (SubP.tup ⟨SubP.of_eq (by rw [e.1]),SubP.int (by rw [e.2]),trivial⟩)
theorem bH (n : Nat) : 2 ^ n = 4294967296 ^ (n / 32) * 2 ^ (n % 32) := by
 conv => lhs;rw [← Nat.div_add_mod n 32]
 rw [Nat.pow_add,Nat.pow_mul]
theorem cY0 (n : Nat) : 4294967296 = 2 ^ (n % 32) * 2 ^ (32 - n % 32) := by
 have h := Nat.mod_lt n (show 0 < 32 by decide);rw [← Nat.pow_add,show n % 32 + (32 - n % 32) = 32 by omega]
theorem dV0 (n : Nat) : 0 < 2 ^ (n % 32) := Nat.pow_pos (by decide)
theorem P_le (n : Nat) : 2 ^ (n % 32) ≤ 2147483648 := by
 have h := Nat.mod_lt n (show 0 < 32 by decide);have h1 : 2 ^ (n % 32) ≤ 2 ^ 31 := Nat.pow_le_pow_right (by decide) (by omega);simpa using h1
structure Lf (l : List Nat) (n : Nat) where
 k : Nat
 c : Nat
 o : List Nat
 eq : VL o + c * 4294967296 ^ (n / 32 + k) = VL (l.take k) * 2 ^ n
 lo : o.length = n / 32 + k
 lg : Lg o
 hc : c < 2 ^ (n % 32)
 le : k ≤ l.length
def Lf.start (l : List Nat) (n : Nat) : Lf l n := ⟨0,0,List.replicate (n / 32) 0,by simp [vR0,VL],by simp,bE _,dV0 n,Nat.zero_le _⟩
def Lf.w {l : List Nat} {n : Nat} (x : Lf l n) : Nat := l.getD x.k 0 * 2 ^ (n % 32)
theorem bS0 (x n : Nat) : x * 2 ^ (n % 32) % 4294967296 = 2 ^ (n % 32) * (x % 2 ^ (32 - n % 32)) := by
 conv => lhs;rw [cY0 n,Nat.mul_comm x]
 rw [Nat.mul_mod_mul_left]
theorem lf_or {x n c : Nat} (hc : c < 2 ^ (n % 32)) : x * 2 ^ (n % 32) % 4294967296 ||| c = x * 2 ^ (n % 32) % 4294967296 + c := by
 rw [bS0,Nat.two_pow_add_eq_or_of_lt hc]
theorem zP1 {x n c : Nat} (hc : c < 2 ^ (n % 32)) : x * 2 ^ (n % 32) % 4294967296 + c < 4294967296 := by
 have h0 := cY0 n;have h1 : x % 2 ^ (32 - n % 32) < 2 ^ (32 - n % 32) := Nat.mod_lt _ (Nat.pow_pos (by decide));have h2 : 2 ^ (n % 32) * (x % 2 ^ (32 - n % 32) + 1) ≤ 2 ^ (n % 32) * 2 ^ (32 - n % 32) := Nat.mul_le_mul_left _ h1;rw [Nat.mul_add] at h2;rw [bS0];omega
theorem lf_w_lt {x : Nat} (n : Nat) (h : x < 4294967296) : x * 2 ^ (n % 32) < 18446744073709551616 := by
 have h1 : x * 2 ^ (n % 32) ≤ 4294967295 * 2147483648 := Nat.mul_le_mul (by omega) (P_le n);omega
theorem zQ1 {x : Nat} (n : Nat) (h : x < 4294967296) : x * 2 ^ (n % 32) / 4294967296 < 2 ^ (n % 32) := by
 rw [Nat.div_lt_iff_lt_mul (by decide),Nat.mul_comm];exact Nat.mul_lt_mul_of_pos_left h (dV0 n)
theorem lf_step {l o : List Nat} {n k c : Nat} (h : VL o + c * 4294967296 ^ (n / 32 + k) = VL (l.take k) * 2 ^ n) (ho : o.length = n / 32 + k) :
  VL (o ++ [l.getD k 0 * 2 ^ (n % 32) % 4294967296 + c]) + l.getD k 0 * 2 ^ (n % 32) / 4294967296 * 4294967296 ^ (n / 32 + (k + 1)) = VL (l.take (k + 1)) * 2 ^ n := by
 have e0 : 4294967296 ^ k * l.getD k 0 * 2 ^ n = 4294967296 ^ (n / 32 + k) * (l.getD k 0 * 2 ^ (n % 32)) := by
  rw [bH n,Nat.pow_add,Nat.mul_mul_mul_comm,Nat.mul_comm (4294967296 ^ k)]
 rw [mM,ho,qF l,Nat.add_mul,e0,← Nat.add_assoc (n / 32) k 1,Nat.pow_succ];generalize 4294967296 ^ (n / 32 + k) = B at *;generalize l.getD k 0 * 2 ^ (n % 32) = w at *;generalize VL (l.take k) * 2 ^ n = R at *;have e := Nat.div_add_mod w 4294967296;have e2 : B * w = B * (4294967296 * (w / 4294967296)) + B * (w % 4294967296) := by rw [← Nat.mul_add,e]
 have e3 : B * (w % 4294967296 + c) = B * (w % 4294967296) + B * c := Nat.mul_add _ _ _;have e4 : w / 4294967296 * (B * 4294967296) = B * (4294967296 * (w / 4294967296)) := by rw [Nat.mul_comm,Nat.mul_assoc]
 have e5 : c * B = B * c := Nat.mul_comm _ _;omega
def Lf.next {l : List Nat} {n : Nat} (x : Lf l n) (hg : Lg l) (h : x.k < l.length) : Lf l n := ⟨x.k + 1,x.w / 4294967296,x.o ++ [x.w % 4294967296 + x.c],lf_step x.eq x.lo,by simp [x.lo];omega,x.lg.snoc (zP1 x.hc),zQ1 n (yY hg _),h⟩
theorem Lf.fin {l : List Nat} {n : Nat} (x : Lf l n) (h : l.length ≤ x.k) : VL (x.o ++ [x.c]) = VL l * 2 ^ n ∧ Lg (x.o ++ [x.c]) ∧ (x.o ++ [x.c]).length = n / 32 + l.length + 1 := by
 have hk := x.le;have h1 := x.eq;have h2 := P_le n;have h3 := x.hc;rw [List.take_of_length_le h] at h1;refine ⟨by rw [mM,x.lo,Nat.mul_comm];exact h1,x.lg.snoc (by omega),by rw [List.length_append,x.lo,List.length_singleton];omega⟩
theorem pU0 {l : List Nat} (hg : Lg l) (i : Nat) : VL l / 4294967296 ^ i = VL (l.drop i) := by
 rcases Nat.lt_or_ge i l.length with h | h
 ·have h1 := vS l i (Nat.le_of_lt h);have h2 := L_lt (hg.take i);rw [List.length_take,Nat.min_eq_left (Nat.le_of_lt h)] at h2;rw [h1,Nat.add_mul_div_left _ _ (Nat.pow_pos (by decide)),Nat.div_eq_of_lt h2,Nat.zero_add]
 ·rw [List.drop_of_length_le h,uA0];exact Nat.div_eq_of_lt (Nat.lt_of_lt_of_le (L_lt hg) (Nat.pow_le_pow_right (by decide) h))
theorem uX (l : List Nat) (i : Nat) : VL (l.drop i) = l.getD i 0 + 4294967296 * VL (l.drop (i + 1)) := by
 rcases Nat.lt_or_ge i l.length with h | h
 ·rw [List.drop_eq_getElem_cons h,uE,qL h]
 ·rw [List.drop_of_length_le h,List.drop_of_length_le (by omega),jN h];rfl
structure Rg (l : List Nat) (n : Nat) where
 k : Nat
 o : List Nat
 eq : VL o = VL l / 2 ^ n % 4294967296 ^ k
 lo : o.length = k
 lg : Lg o
 le : k ≤ l.length
def Rg.start (l : List Nat) (n : Nat) : Rg l n := ⟨0,[],by rw [Nat.pow_zero,Nat.mod_one];rfl,rfl,Lg.nil,Nat.zero_le _⟩
def Rg.w {l : List Nat} {n : Nat} (x : Rg l n) : Nat := l.getD (n / 32 + x.k) 0 + 4294967296 * l.getD (n / 32 + x.k + 1) 0
theorem rg_limb {l : List Nat} {n k : Nat} (hg : Lg l) : VL l / 2 ^ n / 4294967296 ^ k % 4294967296 = (l.getD (n / 32 + k) 0 + 4294967296 * l.getD (n / 32 + k + 1) 0) / 2 ^ (n % 32) % 4294967296 := by
 rw [Nat.div_div_eq_div_mul,bH n,Nat.mul_right_comm,← Nat.pow_add,← Nat.div_div_eq_div_mul,pU0 hg,uX,uX l (n / 32 + k + 1),Nat.mul_add,← Nat.add_assoc];generalize l.getD (n / 32 + k) 0 + 4294967296 * l.getD (n / 32 + k + 1) 0 = W;generalize VL (l.drop (n / 32 + k + 1 + 1)) = R;have e : 4294967296 * (4294967296 * R) = 2 ^ (n % 32) * (4294967296 * (2 ^ (32 - n % 32) * R)) := by
  have h := cY0 n;generalize 2 ^ (n % 32) = P at *;generalize 2 ^ (32 - n % 32) = T at *
  calc 4294967296 * (4294967296 * R) = (P * T) * (4294967296 * R) := by rw [← h]
   _ = P * (4294967296 * (T * R)) := by rw [Nat.mul_assoc,Nat.mul_left_comm T]
 rw [e,Nat.add_mul_div_left _ _ (dV0 n),Nat.add_mul_mod_self_left]
def Rg.next {l : List Nat} {n : Nat} (x : Rg l n) (hg : Lg l) (h : n / 32 + x.k < l.length) : Rg l n := ⟨x.k + 1,x.o ++ [x.w / 2 ^ (n % 32) % 4294967296],by
 rw [mM,x.lo,x.eq];unfold Rg.w;rw [← rg_limb hg,Nat.pow_succ,Nat.mod_mul],by simp [x.lo],x.lg.snoc (Nat.mod_lt _ (by decide)),by omega⟩
theorem Rg.fin {l : List Nat} {n : Nat} (x : Rg l n) (hg : Lg l) (h : l.length ≤ n / 32 + x.k) : VL x.o = VL l / 2 ^ n := by
 rw [x.eq];refine Nat.mod_eq_of_lt ?_;have h1 : VL l < 4294967296 ^ (n / 32 + x.k) := Nat.lt_of_lt_of_le (L_lt hg) (Nat.pow_le_pow_right (by decide) h);rw [Nat.div_lt_iff_lt_mul (Nat.pow_pos (by decide))];refine Nat.lt_of_lt_of_le h1 ?_;rw [Nat.pow_add,Nat.mul_comm,bH n];exact Nat.mul_le_mul_left _ (Nat.le_mul_of_pos_right _ (dV0 n))
variable {md me : Bool}
theorem zH1 (n : Nat) : min (Int.tmod (n : Int) 32).toNat IntKind.u64.bits = n % 32 := by
 rw [Int.tmod_eq_emod_of_nonneg (by omega)];have h : ((n : Int) % 32).toNat = n % 32 := by omega
 rw [h];have := Nat.mod_lt n (show 0 < 32 by decide);show min (n % 32) 64 = n % 32;omega
theorem bG0 (n : Nat) : ((2 : Int) ^ (n % 32)) = ((2 ^ (n % 32) : Nat) : Int) := by rw [Int.natCast_pow];rfl
theorem lf_w {l : List Nat} {n : Nat} (x : Lf l n) (hg : Lg l) : IntKind.u64.wrap (IntKind.u64.wrap ((l.getD x.k 0 : Nat) : Int) * 2 ^ min (Int.tmod (n : Int) 32).toNat IntKind.u64.bits) = ((x.w : Nat) : Int) := by
 have h1 := yY hg x.k;have h2 := lf_w_lt n h1;rw [zH1,bG0,w64 (n := l.getD x.k 0) (by omega),← Int.natCast_mul,w64 h2];rfl
theorem lf_o {l : List Nat} {n : Nat} (x : Lf l n) : bOr .u32 (IntKind.u32.wrap ((x.w : Nat) : Int)) ((x.c : Nat) : Int) = ((x.w % 4294967296 + x.c : Nat) : Int) := by
 have hP := P_le n;have hc := x.hc;rw [lo32 rfl];show IntKind.u32.wrap ((BitVec.ofInt 32 ((x.w % 4294967296 : Nat) : Int) ||| BitVec.ofInt 32 ((x.c : Nat) : Int)).toNat : Int) = _;rw [BitVec.ofInt_natCast,BitVec.ofInt_natCast,BitVec.toNat_or,BitVec.toNat_ofNat,BitVec.toNat_ofNat,Nat.mod_eq_of_lt (Nat.mod_lt _ (by decide)),Nat.mod_eq_of_lt (show x.c < 2 ^ 32 by omega)];unfold Lf.w;rw [lf_or hc,w32n (zP1 hc)]
theorem lf_c {l : List Nat} {n : Nat} (x : Lf l n) (hg : Lg l) : IntKind.u32.wrap (Int.fdiv ((x.w : Nat) : Int) (2 ^ min (Int.toNat 32) IntKind.u64.bits)) = ((x.w / 4294967296 : Nat) : Int) := by
 have h1 := zQ1 n (yY hg x.k);have hP := P_le n;rw [hi32 rfl,w32n (by unfold Lf.w;omega)]
theorem td32 (n : Nat) : Int.tdiv (n : Int) 32 = ((n / 32 : Nat) : Int) := by rw [Int.tdiv_eq_ediv_of_nonneg (by omega)];rfl
theorem tW0 {P : Program} {E : Pn} {K : DS → Prop} {p : Prop} {r : Out} (hr : r.sat P E K) (hp : p := by first | (rw [Int.tmod_eq_emod_of_nonneg (by omega)];omega) | first | exact trivial | omega | exact ini (by omega) (by omega) | (intro hh;simp at hh;exact ini (by omega) (by omega)) | (intro hh;simp at hh ⊢;omega) | (simp at *;omega) | (simp_all;done)) : (Out.need p r).sat P E K := ⟨hp,hr⟩
theorem natLeft_ok (a n : Nat) (ha : (lim a).length ≤ 100000) (hn : n ≤ 1000000) : Fn Tryz.prog 263 [usD (lim a),.v (.int .i64 n)] (usD (lim (a * 2 ^ n))) := by
 have htd := td32 n;refine yG zL Tryz.func263 rfl rfl rfl rfl rfl rfl ?_;intro w0 s0 mx;refine zJ 100 ?_;refine zB (zE zL [1018] 200 rfl ?_);repeat (first | refine zG ?_ | refine zH ?_ | refine zU (by first | (rw [td32];omega) | (simp only [td32];omega) | exact ⟨by decide,by rw [td32];exact ini (by omega) (by omega)⟩ | (rw [td32];exact ini (by omega) (by omega)) | (simp only [td32];exact ini (by omega) (by omega)) | (simp only [td32];refine ⟨?_,?_⟩ <;> omega) | first | exact trivial | omega | exact ini (by omega) (by omega) | (intro hh;simp at hh;exact ini (by omega) (by omega)) | (intro hh;simp at hh ⊢;omega) | (simp at *;omega) | (simp_all;done)) ?_)
 refine zC (zA ?_);refine qZ [0,1] [] 210 [(5,.mo 108 (n / 32))] [(108,.mrow 126 1 (.map (List.replicate (n / 32) 0) uD 0))] ?_;refine ⟨⟨⟨Sub.mo (by rw [td32];omega),yL⟩,⟨SubO.mr (by rw [pX0,td32];congr 3),yI⟩,rfl,rfl⟩,?_⟩;refine uM 108 rfl (by repeat (first | exact trivial | exact (List.length_replicate).symm | refine ⟨?_,?_⟩)) (by repeat (first | exact trivial | refine ⟨?_,?_⟩)) ?_;refine zJ 300 ?_;refine zB (zJ 400 ?_);refine zP ?_;refine yB (ι := Lf (lim a) n) [1,19,20] [] 450 (fun x => [(21,.v (.int .i64 (x.k : Nat))),(6,.v (.int .u32 (x.c : Nat))),(5,.own 108 1 (x.o.map uD))]) (fun x => [(108,.row 126 1 (x.o.map uD).length)]) (fun x => (lim a).length - x.k) (Lf.start _ _) ?_;refine ⟨⟨yL,yI,rfl,rfl⟩,fun x => ?_⟩;have hk := x.le;have hlo := x.lo;have hc1 := x.hc;have hP := P_le n;have ew := lf_w x (yR a);have eo := lf_o x;have ec := lf_c x (yR a);refine zJ 500 ?_;refine zB (zX (fun c4 => ?_) (fun c4 => ?_))
 ·
  refine zK (zA (zB (zP (zJ 600 ?_))));refine zB (zE zL [] 700 rfl ?_);repeat (first | refine zG ?_ | refine zH ?_ | refine tW0 ?_)
  refine zC (zA (zJ 800 ?_));refine yN zL [] 900 ?_;refine zN (zA (yN zL [] 1000 ?_));exact zS (x.next (yR a) (by omega)) ⟨⟨Sub.int (by show (x.k : Int) + 1 = ((x.k + 1 : Nat) : Int);omega),Sub.int (by (try simp only [Int.toNat_natCast]);rw [ew];exact ec),Sub.own (vF (by (try simp only [Int.toNat_natCast]);rw [ew];exact eo)),yL⟩,(by repeat (first | exact trivial | exact SubO.same rfl | exact ⟨rfl,rfl,by show _ = (List.map uD (x.o ++ _)).length;simp⟩ | refine ⟨?_,?_⟩)),rfl,rfl⟩ (by show (lim a).length - (x.k + 1) < (lim a).length - x.k;omega)
 ·
  refine yF (zZ (yA (zW (zA ?_))));refine zB (zE zL [] 1100 rfl ?_);refine zF ?_;refine zR _ ((jD (x.o ++ [x.c]) (x.lg.snoc (by omega)) (by simp;omega)).args ⟨SubP.ownSl (vF rfl),trivial⟩) rfl ?_;refine zF ?_;refine zC (zA (zM ?_));have e := (x.fin (by omega)).1;rw [uY] at e;exact FinV.ret rfl (SubP.of_eq (by rw [e]))
theorem or64r {h l : Nat} (hh : h < 4294967296) (hl : l < 4294967296) : bOr .u64 (IntKind.u64.wrap (l : Int)) (IntKind.u64.wrap (IntKind.u64.wrap (h : Int) * 2 ^ min (Int.toNat 32) IntKind.u64.bits)) = ((l + 4294967296 * h : Nat) : Int) := by
 have e := or64 hh hl;rw [show l + 4294967296 * h = h * 4294967296 + l by omega,← e];unfold bOr;rw [BitVec.or_comm]
theorem rg_T {l : List Nat} {n : Nat} (x : Rg l n) (hg : Lg l) : bOr .u64 (IntKind.u64.wrap ((l.getD (n / 32 + x.k) 0 : Nat) : Int)) (IntKind.u64.wrap (IntKind.u64.wrap ((l.getD (n / 32 + x.k + 1) 0 : Nat) : Int) * 2 ^ min (Int.toNat 32) IntKind.u64.bits)) = ((x.w : Nat) : Int) := by
 rw [or64r (yY hg _) (yY hg _)];rfl
theorem rg_F {l : List Nat} {n : Nat} (x : Rg l n) (hg : Lg l) (h : l.length ≤ n / 32 + x.k + 1) : IntKind.u64.wrap ((l.getD (n / 32 + x.k) 0 : Nat) : Int) = ((x.w : Nat) : Int) := by
 have h1 := yY hg (n / 32 + x.k);unfold Rg.w;rw [jN h,w64 (by omega)];simp
theorem rg_l {n w : Nat} : IntKind.u32.wrap (Int.fdiv ((w : Nat) : Int) (2 ^ min (Int.tmod (n : Int) 32).toNat IntKind.u64.bits)) = ((w / 2 ^ (n % 32) % 4294967296 : Nat) : Int) := by
 rw [zH1,dW (bG0 n),lo32 rfl]
theorem natRight_ok (a n : Nat) (ha : (lim a).length ≤ 100000) (hn : n ≤ 1000000) : Fn Tryz.prog 265 [usD (lim a),.v (.int .i64 n)] (usD (lim (a / 2 ^ n))) := by
 refine yG zL Tryz.func265 rfl rfl rfl rfl rfl rfl ?_;intro w0 s0 mx;refine zJ 100 ?_;refine zJ 200 ?_;refine qK 5 126 1 rfl ?_;refine zB ?_;refine zB (zE zL [] 300 rfl ?_);repeat (first | refine zG ?_ | refine zH ?_ | refine zU (by first | exact ⟨by decide,by rw [td32];exact ini (by omega) (by omega)⟩ | (rw [td32];exact ini (by omega) (by omega)) | first | exact trivial | omega | exact ini (by omega) (by omega) | (intro hh;simp at hh;exact ini (by omega) (by omega)) | (intro hh;simp at hh ⊢;omega) | (simp at *;omega) | (simp_all;done)) ?_)
 refine zC (zA (zP ?_));refine yB (ι := Rg (lim a) n) [0,1] [] 350 (fun x => [(6,.v (.int .i64 (n / 32 + x.k : Nat))),(5,.own 200 1 (x.o.map uD))]) (fun x => [(200,.row 126 1 (x.o.map uD).length)]) (fun x => (lim a).length - (n / 32 + x.k)) (Rg.start _ _) ?_;refine ⟨⟨⟨Sub.int (by rw [td32];rfl),Sub.own rfl,yL⟩,yI,rfl,rfl⟩,fun x => ?_⟩;have hk := x.le;have hlo := x.lo;refine zB (zJ 400 ?_);refine zX (fun c3 => ?_) (fun c3 => ?_)
 ·
  refine zK (zA (zB (zP (zJ 600 ?_))));refine zB (zJ 700 ?_);refine zX (fun c6 => ?_) (fun c6 => ?_)
  ·
   refine yN zL [] 800 ?_;refine zA ?_;refine zE zL [] 900 rfl ?_;repeat (first | refine zG ?_ | refine zH ?_ | refine tW0 ?_)
   refine zC (zN (zA (yN zL [] 1000 ?_)));have hj : (((n / 32 + x.k : Nat) : Int) + 1).toNat = n / 32 + x.k + 1 := by omega
   have e := rg_T x (yR a);exact zS (x.next (yR a) (by omega)) ⟨⟨Sub.int (by show ((n / 32 + x.k : Nat) : Int) + 1 = ((n / 32 + (x.k + 1) : Nat) : Int);omega),Sub.own (vF (by (try simp only [hj,Int.toNat_natCast]);rw [e];exact rg_l)),yL⟩,(by repeat (first | exact trivial | exact SubO.same rfl | exact ⟨rfl,rfl,by show _ = (List.map uD (x.o ++ _)).length;simp⟩ | refine ⟨?_,?_⟩)),rfl,rfl⟩ (by show (lim a).length - (n / 32 + (x.k + 1)) < (lim a).length - (n / 32 + x.k);omega)
  ·
   refine zK (zA ?_);refine zE zL [] 900 rfl ?_;repeat (first | refine zG ?_ | refine zH ?_ | refine tW0 ?_)
   refine zC (zN (zA (yN zL [] 1000 ?_)));have hj : (((n / 32 + x.k : Nat) : Int) + 1).toNat = n / 32 + x.k + 1 := by omega
   have e := rg_F x (yR a) (by omega);exact zS (x.next (yR a) (by omega)) ⟨⟨Sub.int (by show ((n / 32 + x.k : Nat) : Int) + 1 = ((n / 32 + (x.k + 1) : Nat) : Int);omega),Sub.own (vF (by (try simp only [hj,Int.toNat_natCast]);rw [e];exact rg_l)),yL⟩,(by repeat (first | exact trivial | exact SubO.same rfl | exact ⟨rfl,rfl,by show _ = (List.map uD (x.o ++ _)).length;simp⟩ | refine ⟨?_,?_⟩)),rfl,rfl⟩ (by show (lim a).length - (n / 32 + (x.k + 1)) < (lim a).length - (n / 32 + x.k);omega)
 ·
  refine yF (zZ (yA (zW (zA ?_))));refine zB (zE zL [] 1000 rfl ?_);refine zF ?_;refine zR _ ((jD x.o x.lg (by omega)).args ⟨SubP.ownSl rfl,trivial⟩) rfl ?_;refine zF ?_;refine zC (zA (zM ?_));have e := x.fin (yR a) (by omega);rw [uY] at e;exact FinV.ret rfl (SubP.of_eq (by rw [e]))
end Go.Proofs.YtinegkcbkefeiaaGreatDoor
