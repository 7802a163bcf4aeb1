/- Part 20 of the proof. -/
import Derived.Test.YtinegkcbkefeiaaGreatDoorM19
namespace Go.Proofs.YtinegkcbkefeiaaGreatDoor
open Go.RowKit
variable {md me : Bool}
theorem cmpN_neg (x y : Nat) : cmpN x y < 0 ↔ x < y := by
 unfold cmpN;split
 ·exact ⟨fun _ => by assumption,fun _ => by decide⟩
 ·constructor
  ·intro h;split at h <;> exact absurd h (by decide)
  ·intro h;contradiction
theorem lim_add600 {x y : Nat} (hx : (lim x).length ≤ 128) (hy : (lim y).length ≤ 128) : (lim (x + y)).length ≤ 600 := by
 have h1 := Nat.lt_of_lt_of_le (xQ x) (Nat.pow_le_pow_right (by decide) hx);have h2 := Nat.lt_of_lt_of_le (xQ y) (Nat.pow_le_pow_right (by decide) hy);have h3 : x + y < 4294967296 ^ 129 := by
  rw [Nat.pow_succ];generalize 4294967296 ^ 128 = B at *;omega
 have := qU h3;omega
theorem lim_mul600 {x y : Nat} (hx : (lim x).length ≤ 128) (hy : (lim y).length ≤ 128) : (lim (x * y)).length ≤ 600 := by
 have h1 := Nat.lt_of_lt_of_le (xQ x) (Nat.pow_le_pow_right (by decide) hx);have h2 := Nat.lt_of_lt_of_le (xQ y) (Nat.pow_le_pow_right (by decide) hy);have h3 : x * y < 4294967296 ^ (128 + 128) := by
  rw [Nat.pow_add];exact Nat.mul_lt_mul'' h1 h2
 have := qU h3;omega
def plSg (s : Bool) (x : Nat) (t : Bool) (y : Nat) : Bool := if s = t then s else if x < y then t else s
def plN (s : Bool) (x : Nat) (t : Bool) (y : Nat) : Nat := if s = t then x + y else if x < y then y - x else x - y
theorem plZ (s t : Bool) (x y : Nat) : ZI (plSg s x t y) (plN s x t y) = ZI s x + ZI t y := by
 unfold plSg plN;by_cases h : s = t
 ·subst h;rw [if_pos rfl,if_pos rfl]
  cases s <;> unfold ZI <;> simp <;> omega
 ·rw [if_neg h,if_neg h];by_cases h2 : x < y
  ·rw [if_pos h2,if_pos h2]
   cases s <;> cases t <;> unfold ZI <;> simp at * <;> omega
  ·rw [if_neg h2,if_neg h2]
   cases s <;> cases t <;> unfold ZI <;> simp at * <;> omega
abbrev zV (z : Int) : List D := iV (decide (z < 0),lim z.natAbs)
theorem sg_z {b : Bool} {n : Nat} (h : (lim n).length ≤ 128) : sgD b (lim n) = .tup [.agg (zV (ZI b n)),faD 0 0] := by
 rw [← bH0 h,lim_len];have e1 : (ZI b n).natAbs = n := by cases b <;> unfold ZI <;> simp
 have e2 : (b && decide (0 < n)) = decide (ZI b n < 0) := by
  cases b
  ·unfold ZI;simp
  ·unfold ZI;simp
 rw [zV,e1,e2]
theorem zOk {z : Int} (h : (lim z.natAbs).length ≤ 128) : jY (decide (z < 0)) (lim z.natAbs) = true := by
 unfold jY;rw [Bool.and_eq_true,Bool.or_eq_true,Bool.and_eq_true,Bool.and_eq_true,decide_eq_true_eq,decide_eq_true_eq,decide_eq_true_eq,decide_eq_true_eq];refine ⟨h,?_⟩;rcases Nat.eq_zero_or_pos (lim z.natAbs).length with h0 | h0
 ·refine Or.inl ⟨h0,?_⟩;have h1 := lim_nil.1 (List.eq_nil_of_length_eq_zero h0);have h2 : z = 0 := by omega
  subst h2;rfl
 ·exact Or.inr ⟨h0,zW0 h0⟩
theorem zOks {a b : Int} (ha : (lim a.natAbs).length ≤ 128) (hb : (lim b.natAbs).length ≤ 128) : ∀ k < [(decide (a < 0),lim a.natAbs),(decide (b < 0),lim b.natAbs)].length,jY ([(decide (a < 0),lim a.natAbs),(decide (b < 0),lim b.natAbs)].getD k (false,[])).1 ([(decide (a < 0),lim a.natAbs),(decide (b < 0),lim b.natAbs)].getD k (false,[])).2 = true ∧ ([(decide (a < 0),lim a.natAbs),(decide (b < 0),lim b.natAbs)].getD k (false,[])).2.length ≤ 2000000 := by
 intro k hk;rcases k with _ | _ | k
 ·exact ⟨zOk ha,by show (lim a.natAbs).length ≤ 2000000;omega⟩
 ·exact ⟨zOk hb,by show (lim b.natAbs).length ≤ 2000000;omega⟩
 ·exact absurd hk (by simp)
theorem ZI_not (b : Int) : ZI (!decide (b < 0)) b.natAbs = -b := by
 unfold ZI;by_cases h : b < 0
 ·simp [h];omega
 ·simp [h];omega
theorem tP0 (q : Bool) (n : Nat) : (ZI q n).natAbs = n := by cases q <;> unfold ZI <;> simp
theorem ZI_mul (s t : Bool) (x y : Nat) : ZI (!(s == t)) (x * y) = ZI s x * ZI t y := by
 cases s <;> cases t <;> unfold ZI <;> simp [Int.neg_mul,Int.mul_neg]
theorem mulZ (a b : Int) : ZI (!(decide (a < 0) == decide (b < 0))) (a.natAbs * b.natAbs) = a * b := by rw [ZI_mul,vQ0,vQ0]
theorem cQ (s t : Bool) (x y : Nat) (hx : (lim x).length ≤ 128) (hy : (lim y).length ≤ 128) : Fn Tryz.prog 225 [.agg (iV (s,lim x)),.agg (iV (t,lim y))] (sgD (plSg s x t y) (lim (plN s x t y))) := by
 have hcm := cmpN_neg x y;refine yG zL Tryz.func225 rfl rfl rfl rfl rfl rfl ?_;intro w0 s0 mx;refine zJ 100 ?_;refine zB (zJ 200 ?_);refine zX (fun c1 => ?_) (fun c1 => ?_)
 ·
  refine zB (zE zL [] 300 rfl ?_);refine zF ?_;refine zR _ (qW0 _ _ (by omega) (by omega) (lim_add600 hx hy)) rfl ?_;refine zF ?_;refine zC (zA ?_);refine zB (zE zL [] 400 rfl ?_);refine zF ?_;refine zR _ (vE _ _) rfl ?_;refine zF ?_;refine zC (zA (zM (zO ?_)));have hst : s = t := by simpa using c1
  exact FinV.ret rfl (SubP.of_eq (by rw [plSg,plN,if_pos hst,if_pos hst];rfl))
 ·
  refine zK (zA (zB ?_));refine zB (zE zL [] 500 rfl ?_);refine zF ?_;refine zR _ (tB _ _ (by omega) (by omega)) rfl ?_;refine zF ?_;refine zC (zA (zJ 600 ?_));refine zX (fun c5 => ?_) (fun c5 => ?_)
  ·
   refine yN zL [] 700 ?_;refine zA ?_;refine zB (zE zL [] 800 rfl ?_);refine zF ?_;refine zR _ (bV _ _ (by omega) (by omega) (by omega)) rfl ?_;refine zF ?_;refine zC (zA ?_);refine zB (zE zL [] 900 rfl ?_);refine zF ?_;refine zR _ (vE _ _) rfl ?_;refine zF ?_;refine zC (zA (zM ?_));have hst : ¬ s = t := by simpa using c1
   by_cases hxy : x < y
   ·first | (exact absurd hxy (by omega)) | exact FinV.ret rfl (SubP.of_eq (by rw [plSg,plN,if_neg hst,if_neg hst,if_pos hxy,if_pos hxy];rfl))
   ·first | (exact absurd hxy (by omega)) | exact FinV.ret rfl (SubP.of_eq (by rw [plSg,plN,if_neg hst,if_neg hst,if_neg hxy,if_neg hxy];rfl))
  ·
   refine zK (zA ?_);refine zB (zE zL [] 800 rfl ?_);refine zF ?_;refine zR _ (bV _ _ (by omega) (by omega) (by omega)) rfl ?_;refine zF ?_;refine zC (zA ?_);refine zB (zE zL [] 900 rfl ?_);refine zF ?_;refine zR _ (vE _ _) rfl ?_;refine zF ?_;refine zC (zA (zM ?_));have hst : ¬ s = t := by simpa using c1
   by_cases hxy : x < y
   ·first | (exact absurd hxy (by omega)) | exact FinV.ret rfl (SubP.of_eq (by rw [plSg,plN,if_neg hst,if_neg hst,if_pos hxy,if_pos hxy];rfl))
   ·first | (exact absurd hxy (by omega)) | exact FinV.ret rfl (SubP.of_eq (by rw [plSg,plN,if_neg hst,if_neg hst,if_neg hxy,if_neg hxy];rfl))
theorem intAdd_ok (a b : Int) (ha : (lim a.natAbs).length ≤ 128) (hb : (lim b.natAbs).length ≤ 128) (hab : (lim (a + b).natAbs).length ≤ 128) : Fn Tryz.prog 227 [.agg (zV a),.agg (zV b)] (.tup [.agg (zV (a + b)),faD 0 0]) := by
 have e := plZ (decide (a < 0)) (decide (b < 0)) a.natAbs b.natAbs;rw [vQ0,vQ0] at e;have e2 : (ZI (plSg (decide (a < 0)) a.natAbs (decide (b < 0)) b.natAbs) (plN (decide (a < 0)) a.natAbs (decide (b < 0)) b.natAbs)).natAbs = plN (decide (a < 0)) a.natAbs (decide (b < 0)) b.natAbs := by generalize plSg (decide (a < 0)) a.natAbs (decide (b < 0)) b.natAbs = q;cases q <;> unfold ZI <;> simp
 rw [e] at e2;refine yG zL Tryz.func227 rfl rfl rfl rfl rfl rfl ?_;intro w0 s0 mx;refine zJ 100 ?_;refine zB ?_;refine zB (zE zL [] 200 rfl ?_);refine zF ?_;refine zR _ ((vN [(decide (a < 0),lim a.natAbs),(decide (b < 0),lim b.natAbs)] (zOks ha hb) (by show 2 ≤ 100;omega)).args ⟨SubP.slrSl rfl,trivial⟩) rfl ?_;refine zF ?_;refine zC (zA (zJ 300 ?_));refine zX (fun c2 => ?_) (fun c2 => ?_)
 ·
  exact absurd c2 (by decide)
 ·
  refine zK (zA ?_);refine zB (zE zL [] 500 rfl ?_);refine zF ?_;refine zR _ (cQ (decide (a < 0)) (decide (b < 0)) a.natAbs b.natAbs ha hb) rfl ?_;refine zF ?_;refine zC (zA (zM ?_));exact FinV.ret rfl (SubP.of_eq (by have e3 := sg_z (b := plSg (decide (a < 0)) a.natAbs (decide (b < 0)) b.natAbs) (n := plN (decide (a < 0)) a.natAbs (decide (b < 0)) b.natAbs) (by rw [← e2];exact hab);rw [e] at e3;exact e3))
theorem intSub_ok (a b : Int) (ha : (lim a.natAbs).length ≤ 128) (hb : (lim b.natAbs).length ≤ 128) (hab : (lim (a - b).natAbs).length ≤ 128) : Fn Tryz.prog 180 [.agg (zV a),.agg (zV b)] (.tup [.agg (zV (a - b)),faD 0 0]) := by
 have e := plZ (decide (a < 0)) (!decide (b < 0)) a.natAbs b.natAbs;rw [vQ0,ZI_not,← Int.sub_eq_add_neg] at e;have e2 := tP0 (plSg (decide (a < 0)) a.natAbs (!decide (b < 0)) b.natAbs) (plN (decide (a < 0)) a.natAbs (!decide (b < 0)) b.natAbs);rw [e] at e2;refine yG zL Tryz.func180 rfl rfl rfl rfl rfl rfl ?_;intro w0 s0 mx;refine zJ 100 ?_;refine zB ?_;refine zB (zE zL [] 200 rfl ?_);refine zF ?_;refine zR _ ((vN [(decide (a < 0),lim a.natAbs),(decide (b < 0),lim b.natAbs)] (zOks ha hb) (by show 2 ≤ 100;omega)).args ⟨SubP.slrSl rfl,trivial⟩) rfl ?_;refine zF ?_;refine zC (zA (zJ 300 ?_));refine zX (fun c2 => ?_) (fun c2 => ?_)
 ·
  exact absurd c2 (by decide)
 ·
  refine zK (zA ?_);refine zB (zE zL [] 500 rfl ?_);refine zF ?_;refine zR _ (cQ (decide (a < 0)) (!decide (b < 0)) a.natAbs b.natAbs ha hb) rfl ?_;refine zF ?_;refine zC (zA (zM ?_));exact FinV.ret rfl (SubP.of_eq (by have e3 := sg_z (b := plSg (decide (a < 0)) a.natAbs (!decide (b < 0)) b.natAbs) (n := plN (decide (a < 0)) a.natAbs (!decide (b < 0)) b.natAbs) (by rw [← e2];exact hab);rw [e] at e3;exact e3))
theorem intMul_ok (a b : Int) (ha : (lim a.natAbs).length ≤ 128) (hb : (lim b.natAbs).length ≤ 128) (hab : (lim (a * b).natAbs).length ≤ 128) : Fn Tryz.prog 226 [.agg (zV a),.agg (zV b)] (.tup [.agg (zV (a * b)),faD 0 0]) := by
 have e := mulZ a b;have e2 := tP0 (!(decide (a < 0) == decide (b < 0))) (a.natAbs * b.natAbs);rw [e] at e2;refine yG zL Tryz.func226 rfl rfl rfl rfl rfl rfl ?_;intro w0 s0 mx;refine zJ 100 ?_;refine zB ?_;refine zB (zE zL [] 200 rfl ?_);refine zF ?_;refine zR _ ((vN [(decide (a < 0),lim a.natAbs),(decide (b < 0),lim b.natAbs)] (zOks ha hb) (by show 2 ≤ 100;omega)).args ⟨SubP.slrSl rfl,trivial⟩) rfl ?_;refine zF ?_;refine zC (zA (zJ 300 ?_));refine zX (fun c2 => ?_) (fun c2 => ?_)
 ·
  exact absurd c2 (by decide)
 ·
  refine zK (zA ?_);refine zB (zE zL [] 500 rfl ?_);refine zF ?_;refine zR _ (tA _ _ (by omega) (by omega) (lim_mul600 ha hb)) rfl ?_;refine zF ?_;refine zC (zA ?_);refine zB (zE zL [] 600 rfl ?_);refine zF ?_;refine zR _ (vE _ _) rfl ?_;refine zF ?_;refine zC (zA (zM ?_));exact FinV.ret rfl (SubP.of_eq (by have e3 := sg_z (b := !(decide (a < 0) == decide (b < 0))) (n := a.natAbs * b.natAbs) (by rw [← e2];exact hab);rw [e] at e3;exact e3))
variable {md me : Bool}
theorem cmpZ_of {a b : Int} : (a < 0 → b < 0 → -cmpN a.natAbs b.natAbs = cmpZ a b) ∧ (a < 0 → ¬ b < 0 → -1 = cmpZ a b) ∧ (¬ a < 0 → b < 0 → 1 = cmpZ a b) ∧ (¬ a < 0 → ¬ b < 0 → cmpN a.natAbs b.natAbs = cmpZ a b) := by
 unfold cmpZ cmpN;refine ⟨fun h1 h2 => ?_,fun h1 h2 => ?_,fun h1 h2 => ?_,fun h1 h2 => ?_⟩
 ·by_cases h : a < b
  ·rw [if_pos h,if_neg (by omega),if_pos (by omega)]
  ·rw [if_neg h];by_cases h3 : b < a
   ·rw [if_pos h3,if_pos (by omega)];rfl
   ·rw [if_neg h3,if_neg (by omega),if_neg (by omega)];rfl
 ·rw [if_pos (by omega)]
 ·rw [if_neg (by omega),if_pos (by omega)]
 ·by_cases h : a < b
  ·rw [if_pos h,if_pos (by omega)]
  ·rw [if_neg h,if_neg (by omega)];by_cases h3 : b < a
   ·rw [if_pos h3,if_pos (by omega)]
   ·rw [if_neg h3,if_neg (by omega)]
theorem intCmp_ok (a b : Int) (ha : (lim a.natAbs).length ≤ 128) (hb : (lim b.natAbs).length ≤ 128) : Fn Tryz.prog 181 [.agg (zV a),.agg (zV b)] (.tup [.v (.int .i64 (cmpZ a b)),faD 0 0]) := by
 have hcz := @cmpZ_of a b;have hcn : -1 ≤ cmpN a.natAbs b.natAbs ∧ cmpN a.natAbs b.natAbs ≤ 1 := by unfold cmpN;split;exact ⟨by decide,by decide⟩;split <;> exact ⟨by decide,by decide⟩
 refine yG zL Tryz.func181 rfl rfl rfl rfl rfl rfl ?_;intro w0 s0 mx;refine zJ 100 ?_;refine zB ?_;refine zB (zE zL [] 200 rfl ?_);refine zF ?_;refine zR _ ((vN [(decide (a < 0),lim a.natAbs),(decide (b < 0),lim b.natAbs)] (zOks ha hb) (by show 2 ≤ 100;omega)).args ⟨SubP.slrSl rfl,trivial⟩) rfl ?_;refine zF ?_;refine zC (zA (zJ 300 ?_));refine zX (fun c2 => ?_) (fun c2 => ?_)
 ·
  exact absurd c2 (by decide)
 ·
  refine zK (zA ?_);refine zB (zE zL [] 500 rfl ?_);refine zF ?_;refine zR _ (tB _ _ (by omega) (by omega)) rfl ?_;refine zF ?_;refine zC (zA (zB (zP (zJ 600 ?_))));refine zX (fun c5 => ?_) (fun c5 => ?_)
  ·
   refine zJ 700 ?_;refine zM (zQ (zO ?_));have h := hcz.1 (by omega) (by omega);exact FinV.ret rfl (SubP.tup ⟨SubP.int (by rw [InI.wrap (ini (by omega) (by omega)),← h];omega),SubP.refl _,trivial⟩)
  ·
   refine zJ 800 ?_;refine zX (fun c7 => ?_) (fun c7 => ?_)
   ·
    refine zJ 900 ?_;refine zM (zQ (zO ?_));exact FinV.ret rfl (SubP.tup ⟨SubP.int (by first | (have h := hcz.1 (by first | omega | (clear hcz;simp_all;done) | (clear hcz;simp_all;omega)) (by first | omega | (clear hcz;simp_all;done) | (clear hcz;simp_all;omega));first | exact h | omega | (rw [← h];simp;done)) | exact hcz.2.1 (by first | omega | (clear hcz;simp_all;done) | (clear hcz;simp_all;omega)) (by first | omega | (clear hcz;simp_all;done) | (clear hcz;simp_all;omega)) | exact hcz.2.2.1 (by first | omega | (clear hcz;simp_all;done) | (clear hcz;simp_all;omega)) (by first | omega | (clear hcz;simp_all;done) | (clear hcz;simp_all;omega)) | exact hcz.2.2.2 (by first | omega | (clear hcz;simp_all;done) | (clear hcz;simp_all;omega)) (by first | omega | (clear hcz;simp_all;done) | (clear hcz;simp_all;omega))),SubP.refl _,trivial⟩)
   ·
    refine zJ 1000 ?_;refine zX (fun c9 => ?_) (fun c9 => ?_)
    ·
     refine zJ 1100 ?_;refine zM (zQ (zO ?_));exact FinV.ret rfl (SubP.tup ⟨SubP.int (by first | (have h := hcz.1 (by first | omega | (clear hcz;simp_all;done) | (clear hcz;simp_all;omega)) (by first | omega | (clear hcz;simp_all;done) | (clear hcz;simp_all;omega));first | exact h | omega | (rw [← h];simp;done)) | exact hcz.2.1 (by first | omega | (clear hcz;simp_all;done) | (clear hcz;simp_all;omega)) (by first | omega | (clear hcz;simp_all;done) | (clear hcz;simp_all;omega)) | exact hcz.2.2.1 (by first | omega | (clear hcz;simp_all;done) | (clear hcz;simp_all;omega)) (by first | omega | (clear hcz;simp_all;done) | (clear hcz;simp_all;omega)) | exact hcz.2.2.2 (by first | omega | (clear hcz;simp_all;done) | (clear hcz;simp_all;omega)) (by first | omega | (clear hcz;simp_all;done) | (clear hcz;simp_all;omega))),SubP.refl _,trivial⟩)
    ·
     refine zK (zN (zA (zJ 1200 ?_)));refine zM ?_;exact FinV.ret rfl (SubP.tup ⟨SubP.int (by first | (have h := hcz.1 (by first | omega | (clear hcz;simp_all;done) | (clear hcz;simp_all;omega)) (by first | omega | (clear hcz;simp_all;done) | (clear hcz;simp_all;omega));first | exact h | omega | (rw [← h];simp;done)) | exact hcz.2.1 (by first | omega | (clear hcz;simp_all;done) | (clear hcz;simp_all;omega)) (by first | omega | (clear hcz;simp_all;done) | (clear hcz;simp_all;omega)) | exact hcz.2.2.1 (by first | omega | (clear hcz;simp_all;done) | (clear hcz;simp_all;omega)) (by first | omega | (clear hcz;simp_all;done) | (clear hcz;simp_all;omega)) | exact hcz.2.2.2 (by first | omega | (clear hcz;simp_all;done) | (clear hcz;simp_all;omega)) (by first | omega | (clear hcz;simp_all;done) | (clear hcz;simp_all;omega))),SubP.refl _,trivial⟩)
theorem bO (a : Int) (ha : (lim a.natAbs).length ≤ 40) : Fn Tryz.prog 120 [.agg (zV a)] (.v (.bool true)) := by
 have hk := zOk (z := a) (by omega);refine yG zL Tryz.func120 rfl rfl rfl rfl rfl rfl ?_;intro w0 s0 mx;refine zJ 100 ?_;refine zB (zE zL [] 200 rfl ?_);refine zF ?_;refine zR _ (wX (decide (a < 0)) (lim a.natAbs) (by omega)) rfl ?_;refine zF ?_;refine zC (zA (zM ?_));exact FinV.ret rfl (SubP.bool (by simp [hk];omega))
variable {md me : Bool}
theorem zK0 (a b : Int) (ha : (lim a.natAbs).length ≤ 128) (hb : (lim b.natAbs).length ≤ 128) (hab : (lim (a + b).natAbs).length ≤ 128) : Fn Tryz.prog 184 [.agg (zV a),.agg (zV b)] (.agg (zV (a + b))) := by
 refine yG zL Tryz.func184 rfl rfl rfl rfl rfl rfl ?_;intro w0 s0 mx;refine zJ 100 ?_;refine zB (zE zL [] 200 rfl ?_);refine zF ?_;refine zR _ (intAdd_ok a b ha hb hab) rfl ?_;refine zF ?_;refine zC (zA (zJ 300 ?_));refine zM ?_;exact FinV.ret rfl (SubP.refl _)
theorem wS (a b : Int) (ha : (lim a.natAbs).length ≤ 128) (hb : (lim b.natAbs).length ≤ 128) (hab : (lim (a - b).natAbs).length ≤ 128) : Fn Tryz.prog 122 [.agg (zV a),.agg (zV b)] (.agg (zV (a - b))) := by
 refine yG zL Tryz.func122 rfl rfl rfl rfl rfl rfl ?_;intro w0 s0 mx;refine zJ 100 ?_;refine zB (zE zL [] 200 rfl ?_);refine zF ?_;refine zR _ (intSub_ok a b ha hb hab) rfl ?_;refine zF ?_;refine zC (zA (zJ 300 ?_));refine zM ?_;exact FinV.ret rfl (SubP.refl _)
theorem wH0 (a b : Int) (ha : (lim a.natAbs).length ≤ 128) (hb : (lim b.natAbs).length ≤ 128) (hab : (lim (a * b).natAbs).length ≤ 128) : Fn Tryz.prog 182 [.agg (zV a),.agg (zV b)] (.agg (zV (a * b))) := by
 refine yG zL Tryz.func182 rfl rfl rfl rfl rfl rfl ?_;intro w0 s0 mx;refine zJ 100 ?_;refine zB (zE zL [] 200 rfl ?_);refine zF ?_;refine zR _ (intMul_ok a b ha hb hab) rfl ?_;refine zF ?_;refine zC (zA (zJ 300 ?_));refine zM ?_;exact FinV.ret rfl (SubP.refl _)
theorem kO (a b : Int) (ha : (lim a.natAbs).length ≤ 128) (hb : (lim b.natAbs).length ≤ 128) : Fn Tryz.prog 124 [.agg (zV a),.agg (zV b)] (.v (.bool (decide (a < b)))) := by
 refine yG zL Tryz.func124 rfl rfl rfl rfl rfl rfl ?_;intro w0 s0 mx;refine zJ 100 ?_;refine zB (zE zL [] 200 rfl ?_);refine zF ?_;refine zR _ (intCmp_ok a b ha hb) rfl ?_;refine zF ?_;refine zC (zA (zJ 300 ?_));refine zM ?_;exact FinV.ret rfl (SubP.bool (by unfold cmpZ;split <;> (try split) <;> simp_all <;> omega))
abbrev rgD (a b c : Int) : List D := [.v (.bool (decide (a < 0))),usD (lim a.natAbs),.v (.bool (decide (b < 0))),usD (lim b.natAbs),.v (.bool (decide (c < 0))),usD (lim c.natAbs)]
theorem rgValid_ok (a b c : Int) (ha : (lim a.natAbs).length ≤ 40) (hb : (lim b.natAbs).length ≤ 40) (hc : (lim c.natAbs).length ≤ 40) (h0 : 0 < (lim c.natAbs).length) : Fn Tryz.prog 117 [.agg (rgD a b c)] (.v (.bool true)) := by
 refine yG zL Tryz.func117 rfl rfl rfl rfl rfl rfl ?_;intro w0 s0 mx;refine zJ 100 ?_;refine zB (zE zL [] 200 rfl ?_);refine zF ?_;refine zR _ (bO a ha) rfl ?_;refine zF ?_;refine yM _ (fun hg6 => bO _ (by first | assumption | omega | (simp_all;done))) rfl ?_;refine zF ?_;refine yM _ (fun hg11 => bO _ (by first | assumption | omega | (simp_all;done))) rfl ?_;refine zF ?_;refine zC (zA (zM ?_));exact FinV.ret rfl (SubP.bool (by simp_all))
structure KD (U V H u2 v1 v2 : Nat) where
 E : Nat
 u' : Nat
 v' : Nat
 hU : U = H * (4294967296 * E) + u2 * E + u'
 hV : V = v1 * (4294967296 * E) + v2 * E + v'
 lu : u' < E
 lv : v' < E
 lu2 : u2 < 4294967296
 lv2 : v2 < 4294967296
 lv1 : 0 < v1
 lt : U < V * 4294967296
theorem xA0 {g v1 r H : Nat} (e : g * v1 + r = H) (E : Nat) : H * (4294967296 * E) = g * v1 * (4294967296 * E) + r * 4294967296 * E := by rw [← e,Nat.add_mul,Nat.mul_assoc r]
section
variable {U V H u2 v1 v2 : Nat} (K : KD U V H u2 v1 v2)
include K
theorem KD.V_pos : 0 < V := by
 have h1 := K.lv;have h2 := K.lv1;have h3 : 0 < v1 * (4294967296 * K.E) := Nat.mul_pos h2 (by omega);have := K.hV;omega
theorem KD.V_lt : V < (v1 + 1) * (4294967296 * K.E) := by
 have h1 := K.hV;have h2 : (v2 + 1) * K.E ≤ 4294967296 * K.E := Nat.mul_le_mul_right _ K.lv2;have h3 := K.lv;rw [Nat.add_mul] at h2 ⊢;omega
theorem KD.U_lt : U < (H + 1) * (4294967296 * K.E) := by
 have h1 := K.hU;have h2 : (u2 + 1) * K.E ≤ 4294967296 * K.E := Nat.mul_le_mul_right _ K.lu2;have h3 := K.lu;rw [Nat.add_mul] at h2 ⊢;omega
theorem KD.H_lt : H < (v1 + 1) * 4294967296 := by
 have h1 := K.V_lt;have h2 := K.lt;have h3 : V * 4294967296 < (v1 + 1) * (4294967296 * K.E) * 4294967296 := by omega
 have h4 : H * (4294967296 * K.E) < (v1 + 1) * 4294967296 * (4294967296 * K.E) := by
  have := K.hU;rw [Nat.mul_right_comm (v1 + 1)];omega
 exact Nat.lt_of_mul_lt_mul_right h4
theorem KD.q_lt : U / V < 4294967296 := (Nat.div_lt_iff_lt_mul K.V_pos).2 (by rw [Nat.mul_comm];exact K.lt)
theorem KD.q_le : U / V ≤ H / v1 := by
 rw [Nat.le_div_iff_mul_le K.lv1];have h1 : U / V * V ≤ U := Nat.div_mul_le_self U V;have h2 := K.U_lt;have h3 : U / V * v1 * (4294967296 * K.E) ≤ U / V * V := by
  rw [Nat.mul_assoc];refine Nat.mul_le_mul_left _ ?_;have := K.hV;omega
 exact Nat.le_of_lt_succ (Nat.lt_of_mul_lt_mul_right (Nat.lt_of_le_of_lt (Nat.le_trans h3 h1) h2))
theorem KD.down {g r : Nat} (e : g * v1 + r = H) (hq : U / V ≤ g) (h : 4294967296 ≤ g ∨ r * 4294967296 + u2 < g * v2) : U / V < g := by
 rcases Nat.lt_or_ge (U / V) g with h0 | h0
 ·exact h0
 ·exfalso;have hb := K.q_lt;have h := h.resolve_left (by omega);have h1 : g * V ≤ U := Nat.le_trans (Nat.mul_le_mul_right _ h0) (Nat.div_mul_le_self U V);rw [K.hV,Nat.mul_add,Nat.mul_add,← Nat.mul_assoc,← Nat.mul_assoc g v2] at h1;have h2 := K.hU;have h3 := K.lu;have h4 := xA0 e K.E;have h5 : (r * 4294967296 + u2 + 1) * K.E ≤ g * v2 * K.E := Nat.mul_le_mul_right _ h;rw [Nat.add_mul,Nat.add_mul] at h5;omega
theorem KD.fin {g r : Nat} (e : g * v1 + r = H) (hq : U / V ≤ g) (h : 4294967296 ≤ r ∨ g < 4294967296 ∧ g * v2 ≤ r * 4294967296 + u2) : g < 4294967296 ∧ g ≤ U / V + 1 := by
 have hU := K.hU;have h4 := xA0 e K.E;have hV : g * V = g * v1 * (4294967296 * K.E) + g * v2 * K.E + g * K.v' := by
  conv => lhs;rw [K.hV]
  rw [Nat.mul_add,Nat.mul_add,← Nat.mul_assoc,← Nat.mul_assoc g v2]
 have hg : g < 4294967296 := by
  rcases h with h | h
  ·have h1 := K.H_lt;rw [Nat.add_mul] at h1;have h2 : g * v1 < 4294967296 * v1 := by rw [Nat.mul_comm 4294967296];omega
   exact Nat.lt_of_mul_lt_mul_right h2
  ·exact h.1
 refine ⟨hg,?_⟩;have hv' : g * K.v' ≤ 4294967296 * K.E := Nat.mul_le_mul (Nat.le_of_lt hg) (Nat.le_of_lt K.lv);have hVp := K.V_pos;rcases h with h | h
 ·have h1 : (v2 * K.E + K.v') ≤ 4294967296 * K.E := by
   have h2 : (v2 + 1) * K.E ≤ 4294967296 * K.E := Nat.mul_le_mul_right _ K.lv2;have h3 := K.lv;rw [Nat.add_mul] at h2;omega
  have h2 : g * (v2 * K.E + K.v') ≤ r * (4294967296 * K.E) := Nat.mul_le_mul (by omega) h1;rw [Nat.mul_add,← Nat.mul_assoc,← Nat.mul_assoc] at h2;have : g * V ≤ U := by omega
  have := (Nat.le_div_iff_mul_le hVp).2 this;omega
 ·have h1 : g * v2 * K.E ≤ (r * 4294967296 + u2) * K.E := Nat.mul_le_mul_right _ h.2;rw [Nat.add_mul] at h1;have h2 : 4294967296 * K.E ≤ V := by
   have h3 : 1 * (4294967296 * K.E) ≤ v1 * (4294967296 * K.E) := Nat.mul_le_mul_right _ K.lv1;have := K.hV;omega
  have h3 : g * V ≤ U + V := by omega
  have h4 : (g - 1) * V ≤ U := by rw [Nat.sub_mul];omega
  have := (Nat.le_div_iff_mul_le hVp).2 h4;omega
end
theorem kd_lists {u v : List Nat} {n : Nat} (hu : u.length = n + 1) (hv : v.length = n) (hn : 2 ≤ n) (gu : Lg u) (gv : Lg v) (ht : 0 < v.getD (n - 1) 0) (h : VL u < VL v * 4294967296) :
  Nonempty (KD (VL u) (VL v) (u.getD n 0 * 4294967296 + u.getD (n - 1) 0) (u.getD (n - 2) 0) (v.getD (n - 1) 0) (v.getD (n - 2) 0)) := by
 obtain ⟨m,rfl⟩ : ∃ m,n = m + 2 := ⟨n - 2,by omega⟩;rw [show m + 2 - 1 = m + 1 by omega,show m + 2 - 2 = m by omega] at *;have t1 := gH0 hu;have t2 := qF u (m + 1);have t3 := qF u m;have s1 := gH0 (l := v) (n := m + 1) hv;have s2 := qF v m;have lu := L_lt (gu.take m);have lv := L_lt (gv.take m);rw [List.length_take,Nat.min_eq_left (by omega)] at lu lv;have p1 : 4294967296 ^ (m + 1) = 4294967296 * 4294967296 ^ m := by rw [Nat.pow_succ,Nat.mul_comm]
 have p2 : 4294967296 ^ (m + 2) = 4294967296 * (4294967296 * 4294967296 ^ m) := by rw [Nat.pow_succ,Nat.pow_succ,Nat.mul_comm,Nat.mul_comm (4294967296 ^ m)]
 rw [p2] at t1;rw [p1] at t2 s1;refine ⟨⟨4294967296 ^ m,VL (u.take m),VL (v.take m),?_,?_,lu,lv,yY gu _,yY gv _,ht,h⟩⟩
 ·rw [t1,t2,t3,Nat.add_mul,Nat.mul_comm (4294967296 ^ m),Nat.mul_comm (u.getD (m + 2) 0 * 4294967296),Nat.mul_comm (u.getD (m + 1) 0)];have e : 4294967296 * (4294967296 * 4294967296 ^ m) * u.getD (m + 2) 0 = 4294967296 * 4294967296 ^ m * (u.getD (m + 2) 0 * 4294967296) := by
   rw [Nat.mul_comm (u.getD (m + 2) 0),← Nat.mul_assoc (4294967296 * 4294967296 ^ m),Nat.mul_comm 4294967296 (4294967296 * 4294967296 ^ m)]
  omega
 ·rw [s1,s2,Nat.mul_comm (4294967296 ^ m),Nat.mul_comm (v.getD (m + 1) 0)];omega
structure Gu (U V H v1 : Nat) where
 g : Nat
 r : Nat
 e : g * v1 + r = H
 q : U / V ≤ g
 lr : r < 4294967296
def Gu.start {U V H u2 v1 v2 : Nat} (K : KD U V H u2 v1 v2) (h : v1 < 4294967296) : Gu U V H v1 := ⟨H / v1,H % v1,by rw [Nat.mul_comm];exact Nat.div_add_mod H v1,K.q_le,Nat.lt_trans (Nat.mod_lt _ K.lv1) h⟩
theorem Gu.pos {U V H u2 v1 v2 : Nat} (x : Gu U V H v1) (K : KD U V H u2 v1 v2) (h : 4294967296 ≤ x.g ∨ x.r * 4294967296 + u2 < x.g * v2) : U / V ≤ x.g - 1 ∧ 0 < x.g ∧ (x.g - 1) * v1 + (x.r + v1) = H := by
 have h1 := K.down x.e x.q h;have h2 := x.e;have h0 : 0 < x.g := Nat.lt_of_le_of_lt (Nat.zero_le _) h1;refine ⟨Nat.le_sub_one_of_lt h1,h0,?_⟩;have h3 : (x.g - 1 + 1) * v1 = (x.g - 1) * v1 + v1 := by rw [Nat.add_mul,Nat.one_mul]
 rw [show x.g - 1 + 1 = x.g from Nat.sub_add_cancel h0] at h3;clear h1 h;omega
def Gu.next {U V H u2 v1 v2 : Nat} (x : Gu U V H v1) (K : KD U V H u2 v1 v2) (h : 4294967296 ≤ x.g ∨ x.r * 4294967296 + u2 < x.g * v2) (hr : x.r + v1 < 4294967296) : Gu U V H v1 := ⟨x.g - 1,x.r + v1,(x.pos K h).2.2,(x.pos K h).1,hr⟩
theorem Gu.stop {U V H u2 v1 v2 : Nat} (x : Gu U V H v1) (K : KD U V H u2 v1 v2) (h : 4294967296 ≤ x.g ∨ x.r * 4294967296 + u2 < x.g * v2) (hr : 4294967296 ≤ x.r + v1) : x.g - 1 < 4294967296 ∧ U / V ≤ x.g - 1 ∧ x.g - 1 ≤ U / V + 1 :=
 have h1 := K.fin (x.pos K h).2.2 (x.pos K h).1 (Or.inl hr)
 ⟨h1.1,(x.pos K h).1,h1.2⟩
theorem Gu.done {U V H u2 v1 v2 : Nat} (x : Gu U V H v1) (K : KD U V H u2 v1 v2) (h : x.g < 4294967296) (h2 : x.g * v2 ≤ x.r * 4294967296 + u2) : x.g < 4294967296 ∧ U / V ≤ x.g ∧ x.g ≤ U / V + 1 :=
 have h1 := K.fin x.e x.q (Or.inr ⟨h,h2⟩)
 ⟨h1.1,x.q,h1.2⟩
structure SuD (u v : List Nat) (g : Nat) where
 k : Nat
 c : Nat
 b : Nat
 o : List Nat
 eq : VL o + g * VL (v.take k) = VL (u.take k) + (b + c) * 4294967296 ^ k
 lo : o.length = k
 lg : Lg o
 hc : c < 4294967296
 hb : b ≤ 1
 h0 : v.length < k → c = 0
 le : k ≤ u.length
def SuD.start (u v : List Nat) (g : Nat) : SuD u v g := ⟨0,0,0,[],by simp [VL],rfl,Lg.nil,by decide,by decide,fun _ => rfl,Nat.zero_le _⟩
def SuD.s {u v : List Nat} {g : Nat} (x : SuD u v g) : Nat := x.c + g * v.getD x.k 0
theorem SuD.s_lt {u v : List Nat} {g : Nat} (x : SuD u v g) (hg : g < 4294967296) (gv : Lg v) : x.s < 18446744073709551616 := by
 have h1 := dR hg (yY gv x.k);have h3 := x.hc;unfold SuD.s;omega
theorem su_step {u v o : List Nat} {g k c b s y d : Nat} (h : VL o + g * VL (v.take k) = VL (u.take k) + (b + c) * 4294967296 ^ k) (ho : o.length = k) (hs : s = c + g * v.getD k 0) (hy : y + s % 4294967296 + b = u.getD k 0 + 4294967296 * d) :
  VL (o ++ [y]) + g * VL (v.take (k + 1)) = VL (u.take (k + 1)) + (d + s / 4294967296) * 4294967296 ^ (k + 1) := by
 rw [mM,ho,qF u,qF v,Nat.pow_succ,Nat.mul_add g];have e0 : g * (4294967296 ^ k * v.getD k 0) = 4294967296 ^ k * (g * v.getD k 0) := Nat.mul_left_comm _ _ _;rw [e0];generalize 4294967296 ^ k = B at *;generalize g * v.getD k 0 = M at *;generalize g * VL (v.take k) = R at *;have e : s = 4294967296 * (s / 4294967296) + s % 4294967296 := (Nat.div_add_mod s 4294967296).symm;have e1 : y + b + c + M = u.getD k 0 + 4294967296 * (d + s / 4294967296) := by omega
 have e2 : B * y + B * b + B * c + B * M = B * u.getD k 0 + B * (4294967296 * (d + s / 4294967296)) := by rw [← Nat.mul_add,← Nat.mul_add,← Nat.mul_add,e1,Nat.mul_add]
 have e4 : (d + s / 4294967296) * (B * 4294967296) = B * (4294967296 * (d + s / 4294967296)) := by rw [Nat.mul_comm,Nat.mul_assoc]
 have e5 : (b + c) * B = B * b + B * c := by rw [Nat.add_mul,Nat.mul_comm b,Nat.mul_comm c]
 omega
def SuD.next {u v : List Nat} {g : Nat} (x : SuD u v g) (gu : Lg u) (gv : Lg v) (hg : g < 4294967296) (h : x.k < u.length) : SuD u v g := ⟨x.k + 1,x.s / 4294967296,lsB (u.getD x.k 0) (x.s % 4294967296) x.b,x.o ++ [lsD (u.getD x.k 0) (x.s % 4294967296) x.b],su_step x.eq x.lo rfl (cB0 (yY gu _) (Nat.mod_lt _ (by decide)) x.hb),by simp [x.lo],x.lg.snoc (cA0 _ _ _),by have := x.s_lt hg gv;omega,bO0 _ _ _,fun h1 => by
 have h2 : x.s = x.c := by unfold SuD.s;rw [jN (by omega)];omega
 rw [h2];exact Nat.div_eq_of_lt x.hc,h⟩
theorem SuD.fin {u v : List Nat} {g : Nat} (x : SuD u v g) (h : u.length ≤ x.k) (hl : v.length < u.length) : VL x.o + g * VL v = VL u + x.b * 4294967296 ^ u.length ∧ x.o.length = u.length := by
 have hk := x.le;have e : x.k = u.length := by omega
 have h1 := x.eq;rw [x.h0 (by omega),e,List.take_of_length_le (Nat.le_refl _),List.take_of_length_le (by omega)] at h1;exact ⟨h1,by rw [x.lo,e]⟩
theorem dg_exact {u v : List Nat} {g : Nat} (x : SuD u v g) (h : u.length ≤ x.k) (hl : v.length < u.length) (hb : x.b = 0) (hp : 0 < VL v) (hq : VL u / VL v ≤ g) : g = VL u / VL v ∧ VL x.o = VL u % VL v := by
 have h1 := (x.fin h hl).1;rw [hb] at h1;have h2 : g * VL v ≤ VL u := by omega
 have h3 := (Nat.le_div_iff_mul_le hp).2 h2;have e : g = VL u / VL v := by omega
 refine ⟨e,?_⟩;have h4 := Nat.div_add_mod (VL u) (VL v);rw [← e,Nat.mul_comm] at h4;omega
theorem ad_fin {w v : List Nat} {n : Nat} (x : PlL w v) (hw : w.length = n + 1) (hv : v.length = n) (hk : x.k = n) : VL (x.o ++ [(w.getD n 0 + x.c) % 4294967296]) + (w.getD n 0 + x.c) / 4294967296 * 4294967296 ^ (n + 1) = VL w + VL v := by
 have h1 := x.eq;rw [hk,List.take_of_length_le (l := v) (by omega)] at h1;rw [mM,x.lo,hk,gH0 hw,Nat.pow_succ];generalize w.getD n 0 = t at *;generalize x.c = c at *;generalize 4294967296 ^ n = B at *;have e := Nat.div_add_mod (t + c) 4294967296;have e2 : B * (t + c) = B * (4294967296 * ((t + c) / 4294967296)) + B * ((t + c) % 4294967296) := by rw [← Nat.mul_add,e]
 have e3 : B * (t + c) = B * t + B * c := Nat.mul_add _ _ _;have e4 : (t + c) / 4294967296 * (B * 4294967296) = B * (4294967296 * ((t + c) / 4294967296)) := by rw [Nat.mul_comm,Nat.mul_assoc]
 have e5 : c * B = B * c := Nat.mul_comm _ _;omega
theorem dg_back {u v : List Nat} {g n : Nat} (x : SuD u v g) (hu : u.length = n + 1) (hv : v.length = n) (h : u.length ≤ x.k) (gv : Lg v) (hb : x.b = 1) (hp : 0 < VL v) (hq : g ≤ VL u / VL v + 1) (y : PlL x.o v) (hk : y.k = n) :
  0 < g ∧ g - 1 = VL u / VL v ∧ VL (y.o ++ [(x.o.getD n 0 + y.c) % 4294967296]) = VL u % VL v := by
 obtain ⟨h1,h2⟩ := x.fin h (by omega);rw [hb,hu] at h1;have h3 := ad_fin y (by omega) hv hk;have h4 := L_lt x.lg;rw [h2,hu] at h4;have h5 : Lg (y.o ++ [(x.o.getD n 0 + y.c) % 4294967296]) := y.lg.snoc (Nat.mod_lt _ (by decide));have h6 := L_lt h5;rw [List.length_append,y.lo,hk,List.length_singleton] at h6;have h7 : VL u < g * VL v := by omega
 have h8 : VL u / VL v < g := (Nat.div_lt_iff_lt_mul hp).2 h7;have e : g = VL u / VL v + 1 := Nat.le_antisymm hq h8;have h9 := Nat.div_add_mod (VL u) (VL v);have h10 := Nat.mod_lt (VL u) hp;have h11 := L_lt gv;rw [hv] at h11;have h12 : 4294967296 ^ n ≤ 4294967296 ^ (n + 1) := Nat.pow_le_pow_right (by decide) (by omega);refine ⟨by rw [e];exact Nat.succ_pos _,by rw [e];exact Nat.add_sub_cancel _ _,?_⟩;have h13 : g * VL v = VL v * (VL u / VL v) + VL v := by rw [e,Nat.add_mul,Nat.one_mul,Nat.mul_comm]
 generalize VL (y.o ++ [(x.o.getD n 0 + y.c) % 4294967296]) = R at *;generalize (x.o.getD n 0 + y.c) / 4294967296 = d at *;generalize 4294967296 ^ (n + 1) = B at *;generalize VL v * (VL u / VL v) = Q at *;generalize VL u % VL v = M at *;clear h7 h8 hq;have h14 : R + d * B = M + B := by omega
 have h15 : d = 1 := by
  rcases Nat.lt_or_ge d 1 with h16 | h16
  ·rw [show d = 0 by omega] at h14;omega
  ·rcases Nat.lt_or_ge d 2 with h17 | h17
   ·omega
   ·have : 2 * B ≤ d * B := Nat.mul_le_mul_right _ h17;omega
 rw [h15] at h14;omega
theorem win_V {U : List Nat} {j n V : Nat} (hg : Lg U) (hj : j + n + 1 ≤ U.length) (hV : V ≤ 4294967296 ^ n) (hlt : VL (U.drop (j + 1)) < V) :
  VL ((U.drop j).take (n + 1)) = VL (U.drop j) ∧ VL ((U.drop j).take (n + 1)) < V * 4294967296 ∧ VL (U.drop (j + n + 1)) = 0 ∧ VL (U.drop j) = U.getD j 0 + 4294967296 * VL (U.drop (j + 1)) := by
 have h1 := uX U j;have h2 := yY hg j;have h3 := vS (U.drop j) (n + 1) (by rw [List.length_drop];omega);rw [List.drop_drop,← Nat.add_assoc] at h3;have h4 : VL (U.drop j) < V * 4294967296 := by omega
 have h5 : V * 4294967296 ≤ 4294967296 ^ (n + 1) := by rw [Nat.pow_succ];exact Nat.mul_le_mul_right _ hV
 have h6 : VL (U.drop (j + n + 1)) = 0 := by
  rcases Nat.eq_zero_or_pos (VL (U.drop (j + n + 1))) with h | h
  ·exact h
  ·have : 4294967296 ^ (n + 1) * 1 ≤ 4294967296 ^ (n + 1) * VL (U.drop (j + n + 1)) := Nat.mul_le_mul_left _ h;omega
 rw [h6,Nat.mul_zero,Nat.add_zero] at h3;exact ⟨h3.symm,by omega,h6,h1⟩
structure DvL (u v : List Nat) (m n : Nat) where
 k : Nat
 U : List Nat
 o : List Nat
 hU : U.length = m + n
 gU : Lg U
 ho : o.length = m
 go : Lg o
 low : U.take k = u.take k
 lt : VL (U.drop k) < VL v
 eq : VL (u.drop k) = VL (o.drop k) * VL v + VL (U.drop k)
 le : k ≤ m
def DvL.start {u v : List Nat} {m n : Nat} (hu : u.length = m + n) (gu : Lg u) (h : VL (u.drop m) < VL v) : DvL u v m n :=
 ⟨m,u,List.replicate m 0,hu,gu,by simp,bE _,rfl,h,by rw [List.drop_of_length_le (l := List.replicate m 0) (by simp),uA0,Nat.zero_mul,Nat.zero_add],Nat.le_refl _⟩
theorem drop_ge_congr {u U : List Nat} {k j : Nat} (h : U.take k = u.take k) (hj : j < k) : U.getD j 0 = u.getD j 0 := by
 have : (U.take k)[j]? = (u.take k)[j]? := by rw [h]
 rw [List.getElem?_take,List.getElem?_take,if_pos hj,if_pos hj] at this;rw [List.getD_eq_getElem?_getD,List.getD_eq_getElem?_getD,this]
section
variable {u v : List Nat} {m n : Nat}
def DvL.W (x : DvL u v m n) : List Nat := (x.U.drop (x.k - 1)).take (n + 1)
def DvL.q (x : DvL u v m n) : Nat := VL x.W / VL v
def DvL.R (x : DvL u v m n) : List Nat := x.U.take (x.k - 1) ++ limN (n + 1) (VL x.W % VL v) ++ x.U.drop (x.k - 1 + n + 1)
theorem DvL.facts (x : DvL u v m n) (gv : Lg v) (hv : v.length = n) (h : 0 < x.k) : VL x.W = VL (x.U.drop (x.k - 1)) ∧ VL x.W < VL v * 4294967296 ∧ VL (x.U.drop (x.k - 1 + n + 1)) = 0 ∧ VL (x.U.drop (x.k - 1)) = x.U.getD (x.k - 1) 0 + 4294967296 * VL (x.U.drop x.k) ∧ x.W.length = n + 1 ∧ Lg x.W ∧ x.q < 4294967296 := by
 have h1 := x.le;have h2 := x.hU;have h3 := L_lt gv;rw [hv] at h3;have h4 : x.k - 1 + 1 = x.k := by omega
 have h5 := win_V (U := x.U) (j := x.k - 1) (n := n) (V := VL v) x.gU (by omega) (Nat.le_of_lt h3) (by rw [h4];exact x.lt);rw [h4] at h5;refine ⟨h5.1,h5.2.1,h5.2.2.1,h5.2.2.2,by unfold DvL.W;rw [List.length_take,List.length_drop];omega,fun y hy => x.gU y (List.mem_of_mem_drop (List.mem_of_mem_take hy)),?_⟩;unfold DvL.q;have hp : 0 < VL v := Nat.lt_of_le_of_lt (Nat.zero_le _) x.lt;rw [Nat.div_lt_iff_lt_mul hp,Nat.mul_comm];exact h5.2.1
theorem DvL.rlt (x : DvL u v m n) (gv : Lg v) (hv : v.length = n) : VL x.W % VL v < 4294967296 ^ (n + 1) := by
 have h3 := L_lt gv;rw [hv] at h3;have hp : 0 < VL v := Nat.lt_of_le_of_lt (Nat.zero_le _) x.lt;have h4 := Nat.mod_lt (VL x.W) hp;have h5 : 4294967296 ^ n ≤ 4294967296 ^ (n + 1) := Nat.pow_le_pow_right (by decide) (by omega);omega
theorem DvL.Rd (x : DvL u v m n) (gv : Lg v) (hv : v.length = n) (h : 0 < x.k) : x.R.length = m + n ∧ x.R.take (x.k - 1) = u.take (x.k - 1) ∧ VL (x.R.drop (x.k - 1)) = VL x.W % VL v ∧ Lg x.R := by
 have h1 := x.le;have h2 := x.hU;obtain ⟨f1,f2,f3,f4,f5,f6,f7⟩ := x.facts gv hv h;have ht : (x.U.take (x.k - 1)).length = x.k - 1 := by rw [List.length_take];omega
 refine ⟨?_,?_,?_,?_⟩
 ·unfold DvL.R;rw [List.length_append,List.length_append,wW,List.length_drop,ht];omega
 ·unfold DvL.R;rw [List.append_assoc,List.take_append_of_le_length (by omega),List.take_take,Nat.min_self];have := x.low;have e : x.k - 1 = min (x.k - 1) x.k := by omega
  rw [e,← List.take_take,this,List.take_take]
 ·unfold DvL.R;rw [List.append_assoc,List.drop_append,List.drop_of_length_le (by omega),ht,Nat.sub_self,List.drop_zero,List.nil_append,yX0,f3,Nat.mul_zero,Nat.add_zero,gF0 (x.rlt gv hv)]
 ·unfold DvL.R;intro y hy;rcases List.mem_append.1 hy with hy | hy
  ·rcases List.mem_append.1 hy with hy | hy
   ·exact x.gU y (List.mem_of_mem_take hy)
   ·exact pH _ _ y hy
  ·exact x.gU y (List.mem_of_mem_drop hy)
theorem dv_step {a b q V W Q R S : Nat} (h1 : b = Q * V + S) (h2 : a + 4294967296 * S = W) (hq : V * q + R = W) : a + 4294967296 * b = (q + 4294967296 * Q) * V + R := by
 rw [h1,Nat.mul_add,Nat.add_mul,Nat.mul_comm q V,Nat.mul_assoc 4294967296 Q V];omega
def DvL.next (x : DvL u v m n) (gv : Lg v) (hv : v.length = n) (h : 0 < x.k) : DvL u v m n :=
 ⟨x.k - 1,x.R,x.o.set (x.k - 1) x.q,(x.Rd gv hv h).1,(x.Rd gv hv h).2.2.2,by rw [List.length_set];exact x.ho,Lg.set x.go _ (x.facts gv hv h).2.2.2.2.2.2,(x.Rd gv hv h).2.1,by
  rw [(x.Rd gv hv h).2.2.1];exact Nat.mod_lt _ (Nat.lt_of_le_of_lt (Nat.zero_le _) x.lt),by
  have h1 := x.le;have h2 := x.ho;obtain ⟨f1,f2,f3,f4,f5,f6,f7⟩ := x.facts gv hv h;rw [(x.Rd gv hv h).2.2.1,uX u,uX (x.o.set (x.k - 1) x.q),show x.k - 1 + 1 = x.k by omega,← drop_ge_congr x.low (show x.k - 1 < x.k by omega)];have e1 : (x.o.set (x.k - 1) x.q).getD (x.k - 1) 0 = x.q := by rw [List.getD_eq_getElem?_getD,List.getElem?_set_self (by omega)];rfl
  have e2 : (x.o.set (x.k - 1) x.q).drop x.k = x.o.drop x.k := by rw [List.drop_set_of_lt (by omega)]
  rw [e1,e2];exact dv_step x.eq (by rw [← f4,← f1]) (Nat.div_add_mod _ _),by have := x.le;omega⟩
theorem DvL.fin (x : DvL u v m n) (h : x.k = 0) (gv : Lg v) (hv : v.length = n) : VL x.o = VL u / VL v ∧ VL (x.U.take n) = VL u % VL v := by
 have h1 := x.eq;have h2 := x.lt;have h3 := x.hU;rw [h,List.drop_zero,List.drop_zero,List.drop_zero] at h1;rw [h,List.drop_zero] at h2;have hp : 0 < VL v := Nat.lt_of_le_of_lt (Nat.zero_le _) h2;have e1 : VL u / VL v = VL x.o := by
  rw [h1,Nat.add_comm,Nat.add_mul_div_right _ _ hp,Nat.div_eq_of_lt h2,Nat.zero_add]
 have e2 : VL u % VL v = VL x.U := by
  rw [h1,Nat.add_comm,Nat.add_mul_mod_self_right,Nat.mod_eq_of_lt h2]
 refine ⟨e1.symm,?_⟩;rw [e2];have h4 := L_lt gv;rw [hv] at h4;have h5 := vS x.U n (by omega);rcases Nat.eq_zero_or_pos (VL (x.U.drop n)) with h6 | h6
 ·rw [h6,Nat.mul_zero,Nat.add_zero] at h5;exact h5.symm
 ·have : 4294967296 ^ n * 1 ≤ 4294967296 ^ n * VL (x.U.drop n) := Nat.mul_le_mul_left _ h6;omega
end
theorem top_lt {a b s n m L : Nat} (ha : a < 4294967296 ^ L) (hm : m + n = L + 1) (hn : 0 < n) (hs : 2 ^ s ≤ 2147483648) (hv : 2147483648 * 4294967296 ^ (n - 1) ≤ b) : VL ((limN (L + 1) (a * 2 ^ s)).drop m) < b := by
 have hP : 0 < 2 ^ s := Nat.pow_pos (by decide);have h1 : a * 2 ^ s < 4294967296 ^ L * 2 ^ s := Nat.mul_lt_mul_of_pos_right ha hP;have h2 : 4294967296 ^ L * 2 ^ s ≤ 4294967296 ^ (L + 1) := by rw [Nat.pow_succ];exact Nat.mul_le_mul_left _ (by omega)
 rw [← pU0 (pH _ _),gF0 (by omega),Nat.div_lt_iff_lt_mul (Nat.pow_pos (by decide))];refine Nat.lt_of_lt_of_le h1 ?_;have h3 : 4294967296 ^ L = 4294967296 ^ (n - 1) * 4294967296 ^ m := by rw [← Nat.pow_add];congr 1;omega
 rw [h3,Nat.mul_right_comm];refine Nat.mul_le_mul_right _ ?_;rw [Nat.mul_comm];exact Nat.le_trans (Nat.mul_le_mul_right _ hs) hv
theorem sh_div (a b s : Nat) : a * 2 ^ s / (b * 2 ^ s) = a / b := Nat.mul_div_mul_right _ _ (Nat.pow_pos (by decide))
theorem sh_mod (a b s : Nat) : a * 2 ^ s % (b * 2 ^ s) / 2 ^ s = a % b := by rw [Nat.mul_mod_mul_right,Nat.mul_div_cancel _ (Nat.pow_pos (by decide))]
variable {md me : Bool}
theorem FnG.mr {P : Program} {f : FuncId} {args : List D} {e : TypeId} {sz : Nat} {m m1 : MR} {out : D} {own' : List DOwn} (h : FnG P f args [.mrow e sz m] out own') (hr : m1.rows = m.rows) : FnG P f args [.mrow e sz m1] out own' := by
 unfold FnG at h ⊢;have e1 : ows (uH 0 [DOwn.mrow e sz m1]) = ows (uH 0 [DOwn.mrow e sz m]) := by
  show [(0,Own.mrow e sz (D.pvss m1.rows))] = [(0,Own.mrow e sz (D.pvss m.rows))];rw [hr]
 rw [e1];exact h
structure TrmW (l : List Nat) where
 k : Nat
 le : k ≤ l.length
 eq : VL (l.take k) = VL l
def TrmW.next {l : List Nat} (x : TrmW l) (h : 0 < x.k) (h0 : l.getD (x.k - 1) 0 = 0) : TrmW l := ⟨x.k - 1,by have := x.le;omega,by
 have h1 := qF l (x.k - 1);rw [show x.k - 1 + 1 = x.k by omega,h0,Nat.mul_zero,Nat.add_zero,x.eq] at h1;exact h1.symm⟩
theorem TrmW.fin {l : List Nat} (hg : Lg l) (x : TrmW l) (h : 0 < x.k → l.getD (x.k - 1) 0 ≠ 0) : x.k = (lim (VL l)).length := by
 have hle := x.le;have hl : (l.take x.k).length = x.k := by rw [List.length_take];omega
 have e : lim (VL (l.take x.k)) = l.take x.k := cH0 (hg.take _) fun hne => by
  have hp : 0 < x.k := by rw [← hl];exact List.length_pos_iff.2 hne
  rw [List.getLast_eq_getElem,← qL (by omega),hl];have := h hp;rw [List.getD_eq_getElem?_getD] at this ⊢;rw [List.getElem?_take,if_pos (by omega)];exact this
 rw [x.eq] at e;rw [e,hl]
theorem kF0 {k : Nat} (h : 0 < k) : ((k : Int) - 1).toNat = k - 1 := by omega
theorem dA0 {P : Program} {E : Pn} {K : DS → Prop} {p : Prop} {r : Out} (hr : r.sat P E K) (hp : p := by first | exact ⟨hm,by rw [← hm];omega⟩ | (intro hh;simp at hh;exact ⟨hm,by rw [← hm];omega⟩) | (intro hh;simp at hh;exact ini (by omega) (by omega)) | (intro hh;simp at hh;exact ⟨by omega,by omega⟩) | exact ⟨by omega,by omega,by omega,by omega⟩ | first | exact trivial | omega | exact ini (by omega) (by omega) | (intro hh;simp at hh;exact ini (by omega) (by omega)) | (intro hh;simp at hh ⊢;omega) | (simp at *;omega) | (simp_all;done)) : (Out.need p r).sat P E K := ⟨hp,hr⟩
theorem natTrim_G (l : List Nat) (n : Nat) (hg : Lg l) (hn : n = l.length) (h0 : 0 < n) (hl : n ≤ 100000000) : FnG Tryz.prog 241 [.mo 0 n] [.mrow 126 1 (.map l uD 0)] (.mw 0 n 0 1 (lim (VL l)).length) [.mrow 126 1 (.map l uD 0)] := by
 have hm : n = (MR.map l uD 0).len := hn;refine xJ0 zL Tryz.func241 rfl rfl rfl rfl rfl rfl rfl ?_;intro w0 s0 mx;refine zB (zE zL [] 100 rfl ?_);repeat (first | refine zG ?_ | refine zH ?_ | refine dA0 ?_)
 refine zC (zA (zB (zP ?_)));refine yB (ι := TrmW l) [] [] 150 (fun x => [(0,.mw 0 n 0 1 x.k)]) (fun x => [(0,.mrow 126 1 (.map l uD 0))]) (fun x => x.k) ⟨l.length,Nat.le_refl _,by rw [List.take_of_length_le (Nat.le_refl _)]⟩ ?_;refine ⟨⟨⟨Sub.moMw h0 rfl rfl hn,yL⟩,yI,rfl,rfl⟩,fun x => ?_⟩;have hk := x.le;refine zB ?_;refine zB (zE zL [] 200 rfl ?_);repeat (first | refine zG ?_ | refine zH ?_ | refine dA0 ?_)
 refine zC (zA (zX (fun c1 => ?_) (fun c1 => ?_)))
 ·
  refine zK (zA (zP ?_));refine zE zL [] 300 rfl ?_;repeat (first | refine zG ?_ | refine zH ?_ | refine dA0 ?_)
  refine zC (zN ?_);have hkp : 0 < x.k := by have := c1.1;omega
  have h9 := c1.2;rw [kF0 hkp,Nat.zero_add] at h9;exact zS (x.next hkp (by omega)) ⟨⟨Sub.mw rfl (by simp) (by show _ = x.k - 1;omega),yL⟩,yI,rfl,rfl⟩ (by show x.k - 1 < x.k;omega)
 ·
  refine yF (zZ (yA (zW (zA ?_))));refine zB (zE zL [] 400 rfl ?_);repeat (first | refine zG ?_ | refine zH ?_ | refine dA0 ?_)
  refine zC (zA (zM ?_));have e := x.fin hg (fun hp h9 => by rw [kF0 hp,Nat.zero_add,h9] at c1;exact absurd c1 (by simp;omega));exact FinH.ret 1 rfl rfl (Sub.mw rfl rfl e) ⟨SubO.mr rfl,trivial⟩
theorem uU0 {l : List Nat} {n v : Nat} (hg : Lg l) (hl : l.length = n) (hv : VL l = v) : l = limN n v := by
 subst hl;subst hv;exact (bQ0 hg).symm
theorem div_lt32 {n : Nat} (h : n < 32) : n / 32 = 0 := Nat.div_eq_of_lt h
theorem tV0 {P : Program} {E : Pn} {K : DS → Prop} {p : Prop} {r : Out} (hr : r.sat P E K) (hp : p := by first | rfl | (rw [x.lo];omega) | first | exact trivial | omega | exact ini (by omega) (by omega) | (intro hh;simp at hh;exact ini (by omega) (by omega)) | (intro hh;simp at hh ⊢;omega) | (simp at *;omega) | (simp_all;done)) : (Out.need p r).sat P E K := ⟨hp,hr⟩
theorem natLeft_G (a n : Nat) (ha : (lim a).length ≤ 100000) (hn : n < 32) : FnG Tryz.prog 263 [usD (lim a),.v (.int .i64 n)] [] (.mw 0 ((lim a).length + 1) 0 1 (lim (a * 2 ^ n)).length) [.mrow 126 1 (.map (limN ((lim a).length + 1) (a * 2 ^ n)) uD 0)] := by
 have htd := td32 n;have hd0 := div_lt32 hn;rw [hd0] at htd;refine xJ0 zL Tryz.func263 rfl rfl rfl rfl rfl rfl rfl ?_;intro w0 s0 mx;refine zJ 100 ?_;refine zB (zE zL [1018] 200 rfl ?_);repeat (first | refine zG ?_ | refine zH ?_ | refine zU (by first | (rw [htd];exact ini (by omega) (by omega)) | (simp only [htd];exact ini (by omega) (by omega)) | exact ⟨by decide,by rw [htd];exact ini (by omega) (by omega)⟩ | (simp only [htd];refine ⟨?_,?_⟩ <;> omega) | (simp only [htd];refine ⟨?_,?_,?_⟩ <;> omega) | first | exact trivial | omega | exact ini (by omega) (by omega) | (intro hh;simp at hh;exact ini (by omega) (by omega)) | (intro hh;simp at hh ⊢;omega) | (simp at *;omega) | (simp_all;done)) ?_)
 refine zC (zA ?_);refine qZ [0,1] [] 210 [(5,.mo 108 0)] [(108,.mrow 126 1 (.map [] uD 0))] ?_;refine ⟨⟨⟨Sub.mo (by rw [htd];rfl),yL⟩,⟨SubO.mr (by rw [htd];rfl),yI⟩,rfl,rfl⟩,?_⟩;refine zJ 300 ?_;refine zB (zJ 400 ?_);refine zP ?_;refine yB (ι := Lf (lim a) n) [1,19,20] [] 450 (fun x => [(21,.v (.int .i64 (x.k : Nat))),(6,.v (.int .u32 (x.c : Nat))),(5,.mo 108 x.o.length)]) (fun x => [(108,.mrow 126 1 (.map x.o uD 0))]) (fun x => (lim a).length - x.k) (Lf.start _ _) ?_;refine ⟨⟨⟨Sub.int rfl,Sub.int rfl,Sub.mo (by show 0 = (List.replicate (n / 32) 0).length;rw [hd0];rfl),yL⟩,⟨SubO.mr (by show _ = (List.replicate (n / 32) 0).map uD;rw [hd0];rfl),yI⟩,rfl,rfl⟩,fun x => ?_⟩;have hk := x.le;have hlo := x.lo;have hc1 := x.hc;have hP := P_le n;have ew := lf_w x (yR a);have eo := lf_o x;have ec := lf_c x (yR a);refine zJ 500 ?_;refine zB (zX (fun c4 => ?_) (fun c4 => ?_))
 ·
  refine zK (zA (zB (zP (zJ 600 ?_))));refine zB (zE zL [] 700 rfl ?_);repeat (first | refine zG ?_ | refine zH ?_ | refine zU (by first | (rw [Int.tmod_eq_emod_of_nonneg (by omega)];omega) | first | exact trivial | omega | exact ini (by omega) (by omega) | (intro hh;simp at hh;exact ini (by omega) (by omega)) | (intro hh;simp at hh ⊢;omega) | (simp at *;omega) | (simp_all;done)) ?_)
  refine zC (zA ?_);refine zB (zE zL [] 800 rfl ?_);repeat (first | refine zG ?_ | refine zH ?_ | refine tV0 ?_)
  refine zC (zA (yN zL [] 900 ?_));refine zN (zA (yN zL [] 1000 ?_));exact zS (x.next (yR a) (by omega)) ⟨⟨Sub.int (by show (x.k : Int) + 1 = ((x.k + 1 : Nat) : Int);omega),Sub.int (by (try simp only [Int.toNat_natCast]);rw [ew];exact ec),Sub.mo (by show x.o.length + _ = (x.o ++ [_]).length;simp),yL⟩,⟨SubO.mr (vF (by (try simp only [Int.toNat_natCast]);rw [ew];exact eo)),yI⟩,rfl,rfl⟩ (by show (lim a).length - (x.k + 1) < (lim a).length - x.k;omega)
 ·
  refine yF (zZ (yA (zW (zA ?_))));refine zB (zE zL [1045] 1100 rfl ?_);repeat (first | refine zG ?_ | refine zH ?_ | refine tV0 ?_)
  refine jO _ _ ((natTrim_G (x.o ++ [x.c]) _ (x.lg.snoc (by omega)) (by simp) (by simp) (by rw [x.lo];simp;omega)).mr (vF rfl)) rfl ?_;repeat (first | refine zG ?_ | refine zH ?_ | refine tV0 ?_)
  refine zC (zA (zM ?_));obtain ⟨e1,e2,e3⟩ := x.fin (by omega);rw [uY] at e1;rw [hd0,Nat.zero_add] at e3;exact FinH.ret 108 rfl rfl (Sub.mw (by rw [← e3];simp) rfl (by rw [e1])) ⟨SubO.mr (by show List.map uD _ = List.map uD _;rw [uU0 e2 e3 e1]),trivial⟩
def bl8 (x : Nat) : Nat := if x < 1 then 0 else if x < 2 then 1 else if x < 4 then 2 else if x < 8 then 3 else if x < 16 then 4 else if x < 32 then 5 else if x < 64 then 6 else if x < 128 then 7 else 8
def blN (x : Nat) : Nat := if 65536 ≤ x then (if 256 ≤ x / 65536 then 24 + bl8 (x / 65536 / 256) else 16 + bl8 (x / 65536)) else if 256 ≤ x then 8 + bl8 (x / 256) else bl8 x
def chk8 (p : ByteArray) : Bool := Nat.blt 255 p.size && (List.range 256).all fun i => Nat.beq (bAt p i) (bl8 i)
theorem chk8_at {p : ByteArray} {i : Nat} (h : chk8 p = true) (hi : i < 256) : bAt p i = bl8 i := by
 unfold chk8 at h;rw [Bool.and_eq_true,List.all_eq_true] at h;exact Nat.eq_of_beq_eq_true (h.2 i (List.mem_range.2 hi))
theorem chk8_size {p : ByteArray} {i : Nat} (h : chk8 p = true) (hi : i < 256) : i < p.size := by
 unfold chk8 at h;rw [Bool.and_eq_true] at h;have := Nat.le_of_ble_eq_true h.1;omega
theorem dC (x : Nat) : bl8 x ≤ 8 := by unfold bl8;(repeat' split) <;> omega
theorem tM0 (x : Nat) : blN x ≤ 32 := by
 unfold blN;have h1 := dC (x / 65536 / 256);have h2 := dC (x / 65536);have h3 := dC (x / 256);have h4 := dC x;split
 ·split <;> omega
 ·split <;> omega
theorem yR0 {x : Nat} (h0 : 0 < x) (h : x < 256) : 2 ^ bl8 x ≤ 2 * x ∧ x < 2 ^ bl8 x := by
 unfold bl8;rw [if_neg (by omega)];by_cases h1 : x < 2
 ·rw [if_pos h1];omega
 rw [if_neg h1];by_cases h2 : x < 4
 ·rw [if_pos h2];omega
 rw [if_neg h2];by_cases h3 : x < 8
 ·rw [if_pos h3];omega
 rw [if_neg h3];by_cases h4 : x < 16
 ·rw [if_pos h4];omega
 rw [if_neg h4];by_cases h5 : x < 32
 ·rw [if_pos h5];omega
 rw [if_neg h5];by_cases h6 : x < 64
 ·rw [if_pos h6];omega
 rw [if_neg h6];by_cases h7 : x < 128
 ·rw [if_pos h7];omega
 rw [if_neg h7];omega
theorem blN_pow {x : Nat} (h0 : 0 < x) (h : x < 4294967296) : 2 ^ blN x ≤ 2 * x ∧ x < 2 ^ blN x := by
 unfold blN;by_cases h1 : 65536 ≤ x
 ·rw [if_pos h1];by_cases h2 : 256 ≤ x / 65536
  ·rw [if_pos h2];have h3 := yR0 (x := x / 65536 / 256) (by omega) (by omega);rw [Nat.pow_add,show 2 ^ 24 = 16777216 by decide];generalize 2 ^ bl8 (x / 65536 / 256) = B at *;omega
  ·rw [if_neg h2];have h3 := yR0 (x := x / 65536) (by omega) (by omega);rw [Nat.pow_add,show 2 ^ 16 = 65536 by decide];generalize 2 ^ bl8 (x / 65536) = B at *;omega
 ·rw [if_neg h1];by_cases h2 : 256 ≤ x
  ·rw [if_pos h2];have h3 := yR0 (x := x / 256) (by omega) (by omega);rw [Nat.pow_add,show 2 ^ 8 = 256 by decide];generalize 2 ^ bl8 (x / 256) = B at *;omega
  ·rw [if_neg h2];exact yR0 h0 (by omega)
theorem w8n {n : Nat} (h : n < 256) : IntKind.u8.wrap (n : Int) = (n : Int) := by
 simp only [IntKind.wrap,IntKind.signed,IntKind.bits,Bool.false_and,Bool.false_eq_true,if_false];omega
theorem sh16 (x : Nat) : Int.fdiv (x : Int) (2 ^ min (Int.toNat 16) IntKind.u32.bits) = ((x / 65536 : Nat) : Int) := dW (by decide)
theorem sh8 (x : Nat) : Int.fdiv (x : Int) (2 ^ min (Int.toNat 8) IntKind.u32.bits) = ((x / 256 : Nat) : Int) := dW (by decide)
theorem bAt8 {x : Nat} {p : ByteArray} (h : x < 256) (hc : chk8 p = true) : bAt p (IntKind.u8.wrap (x : Int)).toNat = bl8 x := by rw [w8n h,Int.toNat_natCast,chk8_at hc h]
theorem kM {P : Program} {E : Pn} {K : DS → Prop} {p : Prop} {r : Out} (hr : r.sat P E K) (hp : p := by first | exact trivial | exact ⟨by (try simp only [h16,h8,h168]);rw [w8n (by omega)];omega,chk8_size (by decide +kernel) (by (try simp only [h16,h8,h168]);rw [w8n (by omega)];omega)⟩ | ((try simp only [h16,h8,h168]);rw [bAt8 (by omega) (by decide +kernel),InI.wrap (ini (by omega) (by omega))];exact ini (by omega) (by omega)) | omega | exact ini (by omega) (by omega)) : (Out.need p r).sat P E K := ⟨hp,hr⟩
theorem Len32_ok (x : Nat) (hx : x < 4294967296) : Fn Tryz.prog 267 [.v (.int .u32 x)] (.v (.int .i64 (blN x : Nat))) := by
 have h16 := sh16 x;have h8 := sh8 x;have h168 := sh8 (x / 65536);have hb1 := dC (x / 65536 / 256);have hb2 := dC (x / 65536);have hb3 := dC (x / 256);have hb4 := dC x;refine yG zL Tryz.func267 rfl rfl rfl rfl rfl rfl ?_;intro w0 s0 mx;refine zB (zE zL [] 100 rfl ?_);repeat (first | refine zG ?_ | refine zH ?_ | refine kM ?_)
 refine zC (zA (zB ?_));refine zB (zE zL [] 200 rfl ?_);repeat (first | refine zG ?_ | refine zH ?_ | refine kM ?_)
 refine zC (zA (zX (fun c1 => ?_) (fun c1 => ?_)))
 ·
  refine zB (zE zL [] 300 rfl ?_);repeat (first | refine zG ?_ | refine zH ?_ | refine kM ?_)
  refine zC (zA ?_);refine qZ [] [] 310 [(0,.v (.int .u32 (x / 65536 : Nat)))] [] ?_;refine ⟨⟨⟨Sub.int h16,yL⟩,yI,rfl,rfl⟩,?_⟩;refine zE zL [] 400 rfl ?_;repeat (first | refine zG ?_ | refine zH ?_ | refine kM ?_)
  refine zC (zA (zB ?_));refine zB (zE zL [] 500 rfl ?_);repeat (first | refine zG ?_ | refine zH ?_ | refine kM ?_)
  refine zC (zA (zX (fun c4 => ?_) (fun c4 => ?_)))
  ·
   refine zB (zE zL [] 600 rfl ?_);repeat (first | refine zG ?_ | refine zH ?_ | refine kM ?_)
   refine zC (zA ?_);refine zE zL [] 700 rfl ?_;repeat (first | refine zG ?_ | refine zH ?_ | refine kM ?_)
   refine zC (zA ?_);refine zB (zE zL [] 800 rfl ?_);repeat (first | refine zG ?_ | refine zH ?_ | refine kM ?_)
   refine zC (zA (zM ?_));exact FinV.ret rfl (SubP.int (by (try simp only [h16,h8,h168] at *);rw [bAt8 (by omega) (by decide +kernel),InI.wrap (ini (by omega) (by omega))];unfold blN;(repeat (first | rw [if_pos (by omega)] | rw [if_neg (by omega)]));omega))
  ·
   refine zK (zA ?_);refine zB (zE zL [] 800 rfl ?_);repeat (first | refine zG ?_ | refine zH ?_ | refine kM ?_)
   refine zC (zA (zM ?_));exact FinV.ret rfl (SubP.int (by (try simp only [h16,h8,h168] at *);rw [bAt8 (by omega) (by decide +kernel),InI.wrap (ini (by omega) (by omega))];unfold blN;(repeat (first | rw [if_pos (by omega)] | rw [if_neg (by omega)]));omega))
 ·
  refine zK (zA (zB ?_));refine zB (zE zL [] 500 rfl ?_);repeat (first | refine zG ?_ | refine zH ?_ | refine kM ?_)
  refine zC (zA (zX (fun c4 => ?_) (fun c4 => ?_)))
  ·
   refine zB (zE zL [] 600 rfl ?_);repeat (first | refine zG ?_ | refine zH ?_ | refine kM ?_)
   refine zC (zA ?_);refine zE zL [] 700 rfl ?_;repeat (first | refine zG ?_ | refine zH ?_ | refine kM ?_)
   refine zC (zA ?_);refine zB (zE zL [] 800 rfl ?_);repeat (first | refine zG ?_ | refine zH ?_ | refine kM ?_)
   refine zC (zA (zM ?_));exact FinV.ret rfl (SubP.int (by (try simp only [h16,h8,h168] at *);rw [bAt8 (by omega) (by decide +kernel),InI.wrap (ini (by omega) (by omega))];unfold blN;(repeat (first | rw [if_pos (by omega)] | rw [if_neg (by omega)]));omega))
  ·
   refine zK (zA ?_);refine zB (zE zL [] 800 rfl ?_);repeat (first | refine zG ?_ | refine zH ?_ | refine kM ?_)
   refine zC (zA (zM ?_));exact FinV.ret rfl (SubP.int (by (try simp only [h16,h8,h168] at *);rw [bAt8 (by omega) (by decide +kernel),InI.wrap (ini (by omega) (by omega))];unfold blN;(repeat (first | rw [if_pos (by omega)] | rw [if_neg (by omega)]));omega))
theorem Lz32_ok (x : Nat) (hx : x < 4294967296) : Fn Tryz.prog 262 [.v (.int .u32 x)] (.v (.int .i64 (32 - blN x : Nat))) := by
 have hb := tM0 x;refine yG zL Tryz.func262 rfl rfl rfl rfl rfl rfl ?_;intro w0 s0 mx;refine zJ 100 ?_;refine zB (zE zL [] 200 rfl ?_);refine zF ?_;refine zR _ (Len32_ok x hx) rfl ?_;refine zF ?_;refine zC (zA (zM ?_));exact FinV.ret rfl (SubP.int (by omega))
theorem add32_ok {x y b : Int} (hx : I32 x) (hy : I32 y) (hb : 0 ≤ b ∧ b ≤ 1) : IntKind.u64.wrap (IntKind.u64.wrap (IntKind.u64.wrap x + IntKind.u64.wrap y) + IntKind.u64.wrap b) = ((b.toNat + x.toNat + y.toNat : Nat) : Int) := by
 obtain ⟨h1,h2⟩ := hx;obtain ⟨h3,h4⟩ := hy;simp only [IntKind.wrap,IntKind.signed,IntKind.bits,Bool.false_and,Bool.false_eq_true,if_false];omega
theorem Add32_ok (x y b : Int) (hx : I32 x) (hy : I32 y) (hb : 0 ≤ b ∧ b ≤ 1) : Fn Tryz.prog 268 [.v (.int .u32 x),.v (.int .u32 y),.v (.int .u32 b)] (.tup [.v (.int .u32 ((b.toNat + x.toNat + y.toNat) % 4294967296 : Nat)),.v (.int .u32 ((b.toNat + x.toNat + y.toNat) / 4294967296 : Nat))]) := by
 refine yG zL Tryz.func268 rfl rfl rfl rfl rfl rfl ?_;intro w0 s0 mx;refine zJ 100 ?_;refine zJ 200 ?_;refine zJ 300 ?_;refine zJ 400 ?_;refine zM ?_;have e := add32_ok hx hy hb;have h2 := hx.2;have h3 := hy.2;exact FinV.ret rfl (SubP.tup ⟨SubP.int (lo32 e),SubP.int (by rw [hi32 e,w32n (by omega)]),trivial⟩)
end Go.Proofs.YtinegkcbkefeiaaGreatDoor
