/- CompareOrderIsTotal: the given statement. Condition: what the law reads is of bulk at most 1048576 (the second form); the listed variables start as the program's text lays them. -/
import Derived.Test.YtinegkcbkefeiaaGreatDoorM23
import Derived.ProofKit
import Derived.OpenShut
import Derived.ShutString
import Derived.Deep.Matrix
import Derived.Test.YtinegkcbkefeiaaGreatDoorCards
import Derived.Test.YtinegkcbkefeiaaGreatDoorTie
import Derived.Lib.LaidU8T
import Derived.Deep.DeepWitnessRowRef
namespace Go.Proofs.YtinegkcbkefeiaaGreatDoor
open Go.RowKit
variable {md me : Bool}
abbrev LR := Except (Int × ByteArray) (Bool × Nat)
def lE : LR → Except Value (Bool × Nat)
 | .ok r => .ok r
 | .error e => .error (gY e.1 e.2)
def liP (F : Nat → Vl → Vl → QR) (G : Nat → Vl → Vl → LR) (z : Bool) : List (Vl × Vl) → Nat → LR
 | [],n => .ok (z,n)
 | x :: l,n => match F n x.1 x.2 with
  | none => .error (42,tD)
  | some r => if r.1 = true then liP F G z l r.2 else G r.2 x.1 x.2
def zpL (a b : List Vl) : List (Vl × Vl) := (List.range (min a.length b.length)).map fun i => (a.getD i vl0,b.getD i vl0)
def liQ (F : Nat → Vl → Vl → QR) (G : Nat → Vl → Vl → LR) (op : Int) (a b : List Vl) (n : Nat) : LR := liP F G (fitO op (cmpI a.length b.length)) (zpL a b) n
theorem gR0 (a b : List Vl) : (zpL a b).length = min a.length b.length := by simp [zpL]
theorem vT0 (a b : List Vl) {k : Nat} (h : k < min a.length b.length) : (zpL a b)[k]? = some (a.getD k vl0,b.getD k vl0) := by simp [zpL,h]
structure Li (F : Nat → Vl → Vl → QR) (G : Nat → Vl → Vl → LR) (z : Bool) (l : List (Vl × Vl)) (n : Nat) where
 k : Nat
 m : Nat
 le : k ≤ l.length
 hm : m ≤ n
 eq : liP F G z (l.drop k) m = liP F G z l n
section
variable {F : Nat → Vl → Vl → QR} {G : Nat → Vl → Vl → LR} {z : Bool} {l : List (Vl × Vl)} {n : Nat}
theorem Li.at (x : Li F G z l n) {v w : Vl} (hg : l[x.k]? = some (v,w)) : liP F G z l n = liP F G z ((v,w) :: l.drop (x.k + 1)) x.m := by
 rw [← x.eq,List.drop_eq_getElem_cons (List.getElem?_eq_some_iff.1 hg).1,(List.getElem?_eq_some_iff.1 hg).2]
theorem Li.pan (x : Li F G z l n) {v w : Vl} (hg : l[x.k]? = some (v,w)) (hr : F x.m v w = none) : liP F G z l n = .error (42,tD) := by
 rw [x.at hg];simp only [liP,hr]
theorem Li.no (x : Li F G z l n) {v w : Vl} (hg : l[x.k]? = some (v,w)) {m2 : Nat} (hr : F x.m v w = some (false,m2)) : liP F G z l n = G m2 v w := by
 rw [x.at hg];simp only [liP,hr];rfl
def Li.next (x : Li F G z l n) (hF : LeQ F) {v w : Vl} (hg : l[x.k]? = some (v,w)) {m2 : Nat} (hr : F x.m v w = some (true,m2)) : Li F G z l n :=
 ⟨x.k + 1,m2,(List.getElem?_eq_some_iff.1 hg).1,by have := hF _ _ _ _ hr;have := x.hm;simp only at *;omega,by rw [x.at hg];simp only [liP,hr];rfl⟩
theorem Li.fin (x : Li F G z l n) (h : ¬ x.k < l.length) : liP F G z l n = .ok (z,x.m) := by
 rw [← x.eq,List.drop_of_length_le (by omega)];rfl
end
theorem dI {r : LR} {a : Bool × Nat} (h : r = .ok a) : lE r = .ok a := by rw [h];rfl
theorem dJ {r : LR} {e : Int × ByteArray} (h : r = .error e) : lE r = .error (gY e.1 e.2) := by rw [h];rfl
def loT (h : List Ob) (a b : Vl) : ByteArray := (((⟨#[99,97,110,110,111,116,32,111,114,100,101,114,32,39]⟩ ++ (yO h (clA h a)).name) ++ ⟨#[39,32,97,110,100,32,39]⟩) ++ (yO h (clA h b)).name) ++ ⟨#[39]⟩
def leP (F : Nat → Vl → Vl → QR) (G : Nat → Vl → Vl → LR) (h : List Ob) (op : Int) (n : Nat) (a b : Vl) : LR :=
 if n = 0 then .error (42,tD)
 else if isN a = true ∧ isN b = true then .ok (fitO op (cmpQ (rqN a) (rqD a) (rqN b) (rqD b)),n - 1)
 else if a.k = b.k ∧ (a.k = 4 ∨ a.k = 5) then .ok (fitO op (cmpB a.s b.s),n - 1)
 else if (zY h a).kind = (zY h b).kind ∧ ((zY h a).kind = 1 ∨ (zY h a).kind = 2) then liQ F G op (zY h a).items (zY h b).items (n - 1)
 else if (zY h a).kind = (zY h b).kind ∧ (zY h a).kind = 4 then .ok (wiB h (zY h a).keys (zY h b).keys && (decide (op = 2) || decide ((zY h a).keys.length < (zY h b).keys.length)),n - 1)
 else .error (32,loT h a b)
def leS (h : List Ob) (op : Int) : Nat → Nat → Vl → Vl → LR
 | 0 => fun _ _ _ => .error (42,tD)
 | f + 1 => fun n a b => leP (eqS h 10000) (leS h op f) h op n a b
section
variable {F : Nat → Vl → Vl → QR} {G : Nat → Vl → Vl → LR} {h : List Ob} {op : Int} {n : Nat} {a b : Vl}
theorem mJ0 (h0 : n = 0) : leP F G h op n a b = .error (42,tD) := if_pos h0
theorem dO0 (h0 : ¬ n = 0) (h1 : isN a = true ∧ isN b = true) : leP F G h op n a b = .ok (fitO op (cmpQ (rqN a) (rqD a) (rqN b) (rqD b)),n - 1) := (if_neg h0).trans (if_pos h1)
theorem dN0 (h0 : ¬ n = 0) (h1 : ¬ (isN a = true ∧ isN b = true)) (h2 : a.k = b.k ∧ (a.k = 4 ∨ a.k = 5)) : leP F G h op n a b = .ok (fitO op (cmpB a.s b.s),n - 1) := (if_neg h0).trans ((if_neg h1).trans (if_pos h2))
theorem gM0 (h0 : ¬ n = 0) (h1 : ¬ (isN a = true ∧ isN b = true)) (h2 : ¬ (a.k = b.k ∧ (a.k = 4 ∨ a.k = 5))) (h3 : (zY h a).kind = (zY h b).kind ∧ ((zY h a).kind = 1 ∨ (zY h a).kind = 2)) : leP F G h op n a b = liQ F G op (zY h a).items (zY h b).items (n - 1) := (if_neg h0).trans ((if_neg h1).trans ((if_neg h2).trans (if_pos h3)))
theorem cJ0 (h0 : ¬ n = 0) (h1 : ¬ (isN a = true ∧ isN b = true)) (h2 : ¬ (a.k = b.k ∧ (a.k = 4 ∨ a.k = 5))) (h3 : (zY h a).kind = (zY h b).kind ∧ (zY h a).kind = 4) : leP F G h op n a b = .ok (wiB h (zY h a).keys (zY h b).keys && (decide (op = 2) || decide ((zY h a).keys.length < (zY h b).keys.length)),n - 1) := (if_neg h0).trans ((if_neg h1).trans ((if_neg h2).trans ((if_neg (by omega)).trans (if_pos h3))))
theorem dM0 (h0 : ¬ n = 0) (h1 : ¬ (isN a = true ∧ isN b = true)) (h2 : ¬ (a.k = b.k ∧ (a.k = 4 ∨ a.k = 5))) (h3 : ¬ ((zY h a).kind = (zY h b).kind ∧ ((zY h a).kind = 1 ∨ (zY h a).kind = 2))) (h4 : ¬ ((zY h a).kind = (zY h b).kind ∧ (zY h a).kind = 4)) : leP F G h op n a b = .error (32,loT h a b) := (if_neg h0).trans ((if_neg h1).trans ((if_neg h2).trans ((if_neg h3).trans (if_neg h4))))
end
theorem gP {h : List Ob} (hh : HpIn h) {v x : Vl} (hx : x ∈ (zY h v).items) : VlIn x := by
 by_cases h0 : (zY h v) = ob0
 ·rw [h0] at hx;exact absurd hx (by show ¬ x ∈ ([] : List Vl);simp)
 ·unfold zY at hx h0;split at hx
  ·exact (hh.at v.r).iv x hx
  ·exact absurd hx (by show ¬ x ∈ ([] : List Vl);simp)
theorem zN1 {v : Vl} (hv : qG v = true) (hi : VlIn v) : Qr.Nm v ∨ ¬ (v.k = 2 ∨ v.k = 3) := by
 by_cases hk : v.k = 2 ∨ v.k = 3
 ·exact .inl (Qr.nm_of hi.nl hi.dl hk hv)
 ·exact .inr hk
theorem rq_Q {v : Vl} (p : Qr.Nm v ∨ ¬ (v.k = 2 ∨ v.k = 3)) (h : isN v = true) : Qr.Q (rqN v) (rqD v) := by
 have hk : v.k = 2 ∨ v.k = 3 := of_decide_eq_true h;rw [(rq_y hk).1,(rq_y hk).2.1];exact (p.resolve_right fun x => x hk).q
set_option maxHeartbeats 1000000 in
theorem dS (h : List Ob) (op : Int) (n : Nat) (a b : List Vl) (F : Nat → Vl → Vl → QR) (G : Nat → Vl → Vl → LR) (ha : a.length ≤ 1000) (hb : b.length ≤ 1000) (hF : LeQ F) (HE : ∀ m,m ≤ n → ∀ x ∈ a,∀ y ∈ b,FnQ Tryz.prog 32 [.bp 0 0,.agg (vlD x),.agg (vlD y)] (cqO md h m) (qE (F m x y)) qB (qO md h) (.v (.bool false))) (HG : ∀ m,m ≤ n → ∀ x ∈ a,∀ y ∈ b,FnQ Tryz.prog 39 [.bp 0 0,.v (.int .i64 op),.agg (vlD x),.agg (vlD y)] (cqO md h m) (lE (G m x y)) qB (qO md h) (.v (.bool false))) : FnQ Tryz.prog 100 [.bp 0 0,.v (.int .i64 op),vsD a,vsD b] (cqO md h n) (lE (liQ F G op a b n)) qB (qO md h) (.v (.bool false)) := by
 refine pY zL Tryz.func100 rfl rfl rfl rfl rfl rfl (fun _ => rfl) rfl ?_;intro w0 s0 mx;refine zJ 100 ?_;refine zB (zJ 200 ?_);refine zP ?_;refine yB (ι := Li F G (fitO op (cmpI a.length b.length)) (zpL a b) n) [0,1,2,3,15] [] 250 (fun x => [(16,.v (.int .i64 x.k))]) (fun x => [(0,.box 111 [.sl md 10 h obD ob0,.v (.int .i64 x.m)])]) (fun x => min a.length b.length - x.k) ⟨0,n,Nat.zero_le _,Nat.le_refl _,rfl⟩ ?_;refine ⟨⟨yL,⟨⟨rfl,Sub.refl _,rfl,Sub.int rfl,rfl,trivial⟩,yI⟩,rfl,rfl⟩,fun x => ?_⟩;have hxl := x.le;rw [gR0] at hxl;refine zJ 300 ?_;refine zB (zT rfl (fun c2 => ?_) (fun c2 => ?_))
 ·have c2 : x.k < a.length ∧ x.k < b.length := by
   have h9 := c2;simp at h9;split at h9 <;> omega
  refine zK (zA (zB (zP (zJ 400 ?_))));rcases hr : F x.m (a.getD x.k vl0) (b.getD x.k vl0) with _ | ⟨bb,m2⟩
  ·refine zB (yD zL [1028] mK9 500 yU (by kernel_rfl) rfl ?_);refine zF ?_;refine uS _ _ ((HE x.m x.hm _ (by rw [qS (by omega)];exact List.getElem_mem _) _ (by rw [qS (by omega)];exact List.getElem_mem _)).no (kQ hr)) (FinQ.pan (dJ (x.pan (vT0 a b (by omega)) hr))) rfl ?_;refine zF ?_;refine zC (zA ?_);exact uN 0
  ·refine zB (yD zL [1028] mK9 500 yU (by kernel_rfl) rfl ?_);refine zF ?_;refine jO _ _ ((HE x.m x.hm _ (by rw [qS (by omega)];exact List.getElem_mem _) _ (by rw [qS (by omega)];exact List.getElem_mem _)).yes (vJ hr)) rfl ?_;refine zF ?_;refine zC (zA (zT rfl (fun c4 => ?_) (fun c4 => ?_)))
   ·have c4 : bb = false := by simpa [qB] using c4
    subst c4;rcases hl : G m2 (a.getD x.k vl0) (b.getD x.k vl0) with e | ⟨b2,m3⟩
    ·refine zB (yD zL [1040] mK10 600 yU (by kernel_rfl) rfl ?_);refine zF ?_;refine uS _ _ ((HG m2 (by have h9 := hF _ _ _ _ hr;have := x.hm;simp only at h9;omega) _ (by rw [qS (by omega)];exact List.getElem_mem _) _ (by rw [qS (by omega)];exact List.getElem_mem _)).no (dJ hl)) (FinQ.pan (dJ ((x.no (vT0 a b (by omega)) hr).trans hl))) rfl ?_;refine zF ?_;refine zC (zA ?_);exact uN 0
    ·refine zB (yD zL [1040] mK10 600 yU (by kernel_rfl) rfl ?_);refine zF ?_;refine jO _ _ ((HG m2 (by have h9 := hF _ _ _ _ hr;have := x.hm;simp only at h9;omega) _ (by rw [qS (by omega)];exact List.getElem_mem _) _ (by rw [qS (by omega)];exact List.getElem_mem _)).yes (dI hl)) rfl ?_;refine zF ?_;refine zC (zA (zM (zQ (zO (yK (zQ (zO ?_)))))));exact FinQ.of (b2,m3) (dI ((x.no (vT0 a b (by omega)) hr).trans hl)) (FinH.ret 1 rfl rfl (Sub.refl _) ⟨⟨rfl,Sub.refl _,rfl,Sub.refl _,rfl,trivial⟩,trivial⟩)
   ·have c4 : bb = true := by simpa [qB] using c4
    subst c4;refine zK (zN (zA (yN zL [] 700 ?_)));exact zS (x.next hF (vT0 a b (by omega)) hr) ⟨⟨Sub.int (by show (x.k : Int) + 1 = ((x.k + 1 : Nat) : Int);push_cast;rfl),yL⟩,⟨⟨rfl,Sub.refl _,rfl,Sub.int rfl,rfl,trivial⟩,yI⟩,rfl,rfl⟩ (by show min a.length b.length - (x.k + 1) < min a.length b.length - x.k;omega)
 ·have c2 : ¬ x.k < min a.length b.length := by
   have h9 := c2;simp at h9;split at h9 <;> omega
  refine yF (zZ (yA (zW (zA ?_))));refine zB (zE zL [] 800 rfl ?_);refine zF ?_;refine zR _ (cmpCompare_ok _ _) rfl ?_;refine zF ?_;refine zC (zA (zJ 900 ?_));refine zM ?_;exact FinQ.of ((fitO op (cmpI a.length b.length)),x.m) (dI (x.fin (by rw [gR0];exact c2))) (FinH.ret 1 rfl rfl (Sub.bool (by unfold fitO;simp)) ⟨⟨rfl,Sub.refl _,rfl,Sub.refl _,rfl,trivial⟩,trivial⟩)
theorem cC {P : Program} {E : Pn} {K : DS → Prop} {p : Prop} {r : Out} (hr : r.sat P E K) (hp : p := by first | (simp only [ByteArray.size_append,kbsz,List.size_toArray,List.length_cons,List.length_nil];omega) | first | exact trivial | omega | exact ini (by omega) (by omega) | (intro hh;simp at hh;exact ini (by omega) (by omega)) | (intro hh;simp at hh ⊢;omega) | (simp at *;omega) | (simp_all;done)) : (Out.need p r).sat P E K := ⟨hp,hr⟩
set_option maxHeartbeats 4000000 in
theorem jA0 (h : List Ob) (op : Int) (n : Nat) (a b : Vl) (G : Nat → Vl → Vl → LR) (hn : n ≤ 10000) (hh : HpIn h) (g : Uh h) (hva : Vd h a) (hvb : Vd h b) (hia : VlIn a) (hib : VlIn b) (H : ∀ m,m < n → ∀ x y,Vd h x → Vd h y → VlIn x → VlIn y → FnQ Tryz.prog 39 [.bp 0 0,.v (.int .i64 op),.agg (vlD x),.agg (vlD y)] (cqO md h m) (lE (G m x y)) qB (qO md h) (.v (.bool false))) : FnQ Tryz.prog 39 [.bp 0 0,.v (.int .i64 op),.agg (vlD a),.agg (vlD b)] (cqO md h n) (lE (leP (eqS h 10000) G h op n a b)) qB (qO md h) (.v (.bool false)) := by
 have pa := zN1 hva.1 hia;have pb := zN1 hvb.1 hib;have hna := (hh.at (clA h a)).nm;have hnb := (hh.at (clA h b)).nm;refine pY zL Tryz.func39 rfl rfl rfl rfl rfl rfl (fun _ => rfl) rfl ?_;intro w0 s0 mx;refine zJ 100 ?_;by_cases c0 : n = 0
 ·refine zB (zE zL [1019] 200 rfl ?_);refine zF ?_;refine uS _ _ ((zP0 h n hn).no (if_pos c0)) (FinQ.pan (dJ (mJ0 c0))) rfl ?_;refine zF ?_;refine zC (zA ?_);exact uN 0
 ·refine zB (zE zL [1019] 200 rfl ?_);refine zF ?_;refine jO _ _ ((zP0 h n hn).yes (if_neg c0)) rfl ?_;refine zF ?_;refine zC (zA (zJ 300 ?_));refine zB (zE zL [] 400 rfl ?_);refine zF ?_;refine zR _ (dA a pa) rfl ?_;refine zF ?_;refine zC (zA ?_);refine zB (zE zL [] 500 rfl ?_);refine zF ?_;refine zR _ (dA b pb) rfl ?_;refine zF ?_;refine zC (zA (zB (zJ 600 ?_)));refine zT rfl (fun c5 => ?_) (fun c5 => ?_)
  ·have c5 : isN a = true ∧ isN b = true := by simpa using c5
   refine zB (zE zL [] 700 rfl ?_);refine zF ?_;refine zR _ (ratCmp_ok (rq_Q pa c5.1) (rq_Q pb c5.2)) rfl ?_;refine zF ?_;refine zC (zA ?_);refine zB (zE zL [] 800 rfl ?_);refine zF ?_;refine xN _ (mT0 op _) rfl rfl ?_;refine zF ?_;refine zC (zA (zM (zO ?_)));exact FinQ.of (fitO op (cmpQ (rqN a) (rqD a) (rqN b) (rqD b)),n - 1) (dI (dO0 c0 c5)) (FinH.ret 1 rfl rfl (Sub.refl _) ⟨⟨rfl,Sub.refl _,rfl,Sub.refl _,rfl,trivial⟩,trivial⟩)
  ·have c5 : ¬ (isN a = true ∧ isN b = true) := by simpa using c5
   refine zK (zA (zB (zJ 900 ?_)));refine zT rfl (fun c8 => ?_) (fun c8 => ?_)
   ·have c8 : a.k = b.k ∧ (a.k = 4 ∨ a.k = 5) := by
     have h9 := c8;simp at h9;omega
    refine zB (zE zL [] 1000 rfl ?_);refine zF ?_;refine zR _ (StrCmp_ok a.s b.s) rfl ?_;refine zF ?_;refine xN _ (mT0 op _) rfl rfl ?_;refine zF ?_;refine zC (zA (zM (zO ?_)));exact FinQ.of (fitO op (cmpB a.s b.s),n - 1) (dI (dN0 c0 c5 c8)) (FinH.ret 1 rfl rfl (Sub.refl _) ⟨⟨rfl,Sub.refl _,rfl,Sub.refl _,rfl,trivial⟩,trivial⟩)
   ·have c8 : ¬ (a.k = b.k ∧ (a.k = 4 ∨ a.k = 5)) := by
     intro h8;have h9 := c8;simp at h9;omega
    refine zK (zA ?_);refine zB (yD zL [] mK8 1100 yU (by kernel_rfl) rfl ?_);refine zF ?_;refine zR _ (vY h a hva.2) rfl ?_;refine zF ?_;refine zR _ (vY h b hvb.2) rfl ?_;refine zF ?_;refine zC (zA (zB (zJ 1200 ?_)));refine zX (fun c11 => ?_) (fun c11 => ?_)
    ·
     refine zJ 1300 ?_;refine zP (zB (zJ 1400 ?_));refine zX (fun c13 => ?_) (fun c13 => ?_)
     ·
      refine zK (zA (zX (fun c13x => ?_) (fun c13x => ?_)))
      ·
       rcases hr : liQ (eqS h 10000) G op (zY h a).items (zY h b).items (n - 1) with e | ⟨bb,m2⟩
       ·refine zB (zE zL [1094] 1600 rfl ?_);refine zF ?_;refine uS _ _ ((dS h op (n - 1) (zY h a).items (zY h b).items (eqS h 10000) G (jX g a).2 (jX g b).2 (cX h 10000) (fun m hm x hx y hy => kG hh g 10000 m x y (by omega) (by omega) (uG g hva.2 (by omega) hx) (uG g hvb.2 (by omega) hy)) fun m hm x hx y hy => H m (by omega) x y (uG g hva.2 (by omega) hx) (uG g hvb.2 (by omega) hy) (gP hh hx) (gP hh hy)).no (dJ hr)) (FinQ.pan (dJ ((gM0 c0 c5 c8 (by omega)).trans hr))) rfl ?_;refine zF ?_;refine zC (zA ?_);exact uN 0
       ·refine zB (zE zL [1094] 1600 rfl ?_);refine zF ?_;refine jO _ _ ((dS h op (n - 1) (zY h a).items (zY h b).items (eqS h 10000) G (jX g a).2 (jX g b).2 (cX h 10000) (fun m hm x hx y hy => kG hh g 10000 m x y (by omega) (by omega) (uG g hva.2 (by omega) hx) (uG g hvb.2 (by omega) hy)) fun m hm x hx y hy => H m (by omega) x y (uG g hva.2 (by omega) hx) (uG g hvb.2 (by omega) hy) (gP hh hx) (gP hh hy)).yes (dI hr)) rfl ?_;refine zF ?_;refine zC (zA (zM (zQ (zO ?_))));exact FinQ.of (bb,m2) (dI ((gM0 c0 c5 c8 (by omega)).trans hr)) (FinH.ret 1 rfl rfl (Sub.refl _) ⟨⟨rfl,Sub.refl _,rfl,Sub.refl _,rfl,trivial⟩,trivial⟩)
      ·
       simp_all
     ·
      refine yN zL [] 1500 ?_;refine zA (zX (fun c14 => ?_) (fun c14 => ?_))
      ·
       rcases hr : liQ (eqS h 10000) G op (zY h a).items (zY h b).items (n - 1) with e | ⟨bb,m2⟩
       ·refine zB (zE zL [1094] 1600 rfl ?_);refine zF ?_;refine uS _ _ ((dS h op (n - 1) (zY h a).items (zY h b).items (eqS h 10000) G (jX g a).2 (jX g b).2 (cX h 10000) (fun m hm x hx y hy => kG hh g 10000 m x y (by omega) (by omega) (uG g hva.2 (by omega) hx) (uG g hvb.2 (by omega) hy)) fun m hm x hx y hy => H m (by omega) x y (uG g hva.2 (by omega) hx) (uG g hvb.2 (by omega) hy) (gP hh hx) (gP hh hy)).no (dJ hr)) (FinQ.pan (dJ ((gM0 c0 c5 c8 (by omega)).trans hr))) rfl ?_;refine zF ?_;refine zC (zA ?_);exact uN 0
       ·refine zB (zE zL [1094] 1600 rfl ?_);refine zF ?_;refine jO _ _ ((dS h op (n - 1) (zY h a).items (zY h b).items (eqS h 10000) G (jX g a).2 (jX g b).2 (cX h 10000) (fun m hm x hx y hy => kG hh g 10000 m x y (by omega) (by omega) (uG g hva.2 (by omega) hx) (uG g hvb.2 (by omega) hy)) fun m hm x hx y hy => H m (by omega) x y (uG g hva.2 (by omega) hx) (uG g hvb.2 (by omega) hy) (gP hh hx) (gP hh hy)).yes (dI hr)) rfl ?_;refine zF ?_;refine zC (zA (zM (zQ (zO ?_))));exact FinQ.of (bb,m2) (dI ((gM0 c0 c5 c8 (by omega)).trans hr)) (FinH.ret 1 rfl rfl (Sub.refl _) ⟨⟨rfl,Sub.refl _,rfl,Sub.refl _,rfl,trivial⟩,trivial⟩)
      ·
       refine zJ 1700 ?_;refine zX (fun c16 => ?_) (fun c16 => ?_)
       ·
        refine zB (zE zL [] 1800 rfl ?_);refine zF ?_;refine xN _ (cF h (n - 1) (zY h a) (zY h b) hh g (tF g hvb.2 (.inr (by omega))).vd (fun k hk => ⟨(tF g hva.2 (.inr (by omega))).keyed k hk,(tF g hva.2 (.inr (by omega))).vd k hk⟩)) rfl rfl ?_;refine zF ?_;refine zC (zA (zM (zQ (zO ?_))));exact FinQ.of (wiB h (zY h a).keys (zY h b).keys && (decide (op = 2) || decide ((zY h a).keys.length < (zY h b).keys.length)),n - 1) (dI (cJ0 c0 c5 c8 (by omega))) (FinH.ret 1 rfl rfl (Sub.bool (by rw [Bool.eq_iff_iff];simp)) ⟨⟨rfl,Sub.refl _,rfl,Sub.refl _,rfl,trivial⟩,trivial⟩)
       ·
        refine zK (zN (zA ?_));refine yD zL [] mK11 1900 yU (by kernel_rfl) rfl ?_;repeat (first | refine zG ?_ | refine zH ?_ | refine cC ?_)
        refine zR _ (wZ h a g (dT0 g (vW0 hva))) rfl ?_;repeat (first | refine zG ?_ | refine zH ?_ | refine cC ?_)
        refine zR _ (wZ h b g (dT0 g (vW0 hvb))) rfl ?_;repeat (first | refine zG ?_ | refine zH ?_ | refine cC ?_)
        refine zR _ (gA _ _) rfl ?_;repeat (first | refine zG ?_ | refine zH ?_ | refine cC ?_)
        refine uL0 (FinQ.pan (dJ (dM0 c0 c5 c8 (by omega) (by omega))) _ rfl) ?_;repeat (first | refine zG ?_ | refine zH ?_ | refine cC ?_)
        refine zC ?_;exact .inr (.inl ⟨1719,rfl⟩)
    ·
     refine zK (zA ?_);refine yD zL [] mK11 1900 yU (by kernel_rfl) rfl ?_;repeat (first | refine zG ?_ | refine zH ?_ | refine cC ?_)
     refine zR _ (wZ h a g (dT0 g (vW0 hva))) rfl ?_;repeat (first | refine zG ?_ | refine zH ?_ | refine cC ?_)
     refine zR _ (wZ h b g (dT0 g (vW0 hvb))) rfl ?_;repeat (first | refine zG ?_ | refine zH ?_ | refine cC ?_)
     refine zR _ (gA _ _) rfl ?_;repeat (first | refine zG ?_ | refine zH ?_ | refine cC ?_)
     refine uL0 (FinQ.pan (dJ (dM0 c0 c5 c8 (by omega) (by omega))) _ rfl) ?_;repeat (first | refine zG ?_ | refine zH ?_ | refine cC ?_)
     refine zC ?_;exact .inr (.inl ⟨1219,rfl⟩)
theorem mH0 {h : List Ob} (hh : HpIn h) (g : Uh h) (op : Int) : ∀ (f n : Nat) (a b : Vl),n ≤ f → n ≤ 10000 → Vd h a → Vd h b → VlIn a → VlIn b → FnQ Tryz.prog 39 [.bp 0 0,.v (.int .i64 op),.agg (vlD a),.agg (vlD b)] (cqO md h n) (lE (leS h op f n a b)) qB (qO md h) (.v (.bool false))
 | 0,n,a,b,h0,h1,ha,hb,ia,ib => by
  have e : n = 0 := by omega
  subst e;exact jA0 h op 0 a b (fun _ _ _ => .error (42,tD)) h1 hh g ha hb ia ib fun m hm => absurd hm (by omega)
 | f + 1,n,a,b,h0,h1,ha,hb,ia,ib => jA0 h op n a b (leS h op f) h1 hh g ha hb ia ib fun m hm x y hx hy jx jy => mH0 hh g op f m x y (by omega) (by omega) hx hy jx jy
def lSt : LR → St
 | .ok r => vlS (boV r.1)
 | .error e => raS e.1 e.2
theorem lSt_ok {q : LR} : ∀ r,lE q = .ok r → lSt q = vlS (boV r.1) := by
 intro r h
 cases q with
 | error e => cases h
 | ok q => cases h;rfl
theorem lSt_no {q : LR} : ∀ V,lE q = .error V → ∃ c t,V = gY c t ∧ lSt q = raS c t := by
 intro V h
 cases q with
 | error e => cases h;exact ⟨e.1,e.2,rfl,rfl⟩
 | ok q => cases h
theorem cmpLessC_ok (h : List Ob) (op : Int) (a b : Vl) (hh : HpIn h) (g : Uh h) (hva : Vd h a) (hvb : Vd h b) (hia : VlIn a) (hib : VlIn b) : FnQ Tryz.prog 38 [.bp 0 0,oiD op,vpD a,vpD b] (cqO md h 10000) (lE (leS h op 10000 10000 a b)) qB (qO md h) (.v (.bool false)) := by
 refine pY zL Tryz.func38 rfl rfl rfl rfl rfl rfl (fun _ => rfl) rfl ?_;intro w0 s0 mx;refine zJ 100 ?_;rcases hr : leS h op 10000 10000 a b with e | ⟨bb,m2⟩
 ·refine zB (zE zL [1010] 200 rfl ?_);refine zF ?_;refine uS _ _ ((mH0 hh g op 10000 10000 a b (Nat.le_refl _) (Nat.le_refl _) hva hvb hia hib).no (dJ hr)) (FinQ.pan (dJ rfl)) rfl ?_;refine zF ?_;refine zC (zA ?_);exact uN 0
 ·refine zB (zE zL [1010] 200 rfl ?_);refine zF ?_;refine jO _ _ ((mH0 hh g op 10000 10000 a b (Nat.le_refl _) (Nat.le_refl _) hva hvb hia hib).yes (dI hr)) rfl ?_;refine zF ?_;refine zC (zA (zM ?_));exact FinQ.of (bb,m2) (dI (rfl)) (FinH.ret 1 rfl rfl (Sub.refl _) ⟨⟨rfl,Sub.refl _,rfl,Sub.refl _,rfl,trivial⟩,trivial⟩)
theorem pN (h : List Ob) (op : Int) (a b : Vl) (hh : HpIn h) (g : Uh h) (hva : Vd h a) (hvb : Vd h b) (hia : VlIn a) (hib : VlIn b) : Fn Tryz.prog 14 [hpD md h,.v (.int .i64 op),.agg (vlD a),.agg (vlD b)] (.agg (stD (lSt (leS h op 10000 10000 a b)))) := by
 refine yG zL Tryz.func14 rfl rfl rfl rfl rfl rfl ?_;intro w0 s0 mx;refine zJ 100 ?_;refine zB (zE zL [] 200 rfl ?_);refine zF ?_;refine xN _ (kL0 h 38 (by decide) [oiD op,vpD a,vpD b] rfl _ _ (cmpLessC_ok h op a b hh g hva hvb hia hib) lSt_ok lSt_no) rfl rfl ?_;refine zF ?_;refine zC (zA (zM ?_));exact FinV.ret rfl (SubP.refl _)
def b01 (b : Bool) : Int := if b = true then 1 else 0
def Tri (l m t e : Bool) : Prop := b01 l + b01 m + b01 e = 1 ∧ b01 l + b01 e = b01 t
theorem pY0 {c c' : Int} (h : c' = -c) : Tri (fitO 1 c) (fitO 1 c') (fitO 2 c) (decide (c = 0)) := by
 subst h;unfold Tri fitO b01;rcases Int.lt_trichotomy c 0 with hc | hc | hc
 ·rw [decide_eq_true hc,decide_eq_false (by omega : ¬ -c < 0),decide_eq_false (by omega : ¬ c = 0),decide_eq_false (by omega : ¬ -c = 0)];decide
 ·subst hc;decide
 ·rw [decide_eq_false (by omega : ¬ c < 0),decide_eq_true (by omega : -c < 0),decide_eq_false (by omega : ¬ c = 0),decide_eq_false (by omega : ¬ -c = 0)];decide
theorem zZ1 : ∀ (a b : List UInt8),Lib.compareBytes b a = -Lib.compareBytes a b
 | [],[] => rfl
 | [],_ :: _ => rfl
 | _ :: _,[] => rfl
 | x :: a,y :: b => by
  unfold Lib.compareBytes;by_cases h1 : x < y
  ·rw [if_pos h1,if_neg (fun h2 => UInt8.lt_asymm h1 h2),if_pos h1];rfl
  ·by_cases h2 : y < x
   ·simp only [if_pos h2,if_neg h1]
   ·simp only [if_neg h2,if_neg h1];exact zZ1 a b
theorem yA1 : ∀ (a b : List UInt8),Lib.compareBytes a b = 0 ↔ a = b
 | [],[] => by simp [Lib.compareBytes]
 | [],_ :: _ => by simp [Lib.compareBytes]
 | _ :: _,[] => by simp [Lib.compareBytes]
 | x :: a,y :: b => by
  unfold Lib.compareBytes;by_cases h1 : x < y
  ·rw [if_pos h1];exact ⟨fun h => absurd h (by decide),fun h => by cases h;exact absurd h1 (UInt8.lt_irrefl x)⟩
  ·rw [if_neg h1];by_cases h2 : y < x
   ·rw [if_pos h2];exact ⟨fun h => absurd h (by decide),fun h => by cases h;exact absurd h2 (UInt8.lt_irrefl x)⟩
   ·rw [if_neg h2,yA1 a b];have hxy : x = y := UInt8.le_antisymm (UInt8.not_lt.1 h2) (UInt8.not_lt.1 h1);subst hxy;simp
theorem cmpB_sw (a b : ByteArray) : cmpB b a = -cmpB a b := zZ1 _ _
theorem cmpB_eq {a b : ByteArray} : cmpB a b = 0 ↔ a = b := by
 unfold cmpB;rw [yA1];constructor
 ·intro h;obtain ⟨⟨x⟩⟩ := a;obtain ⟨⟨y⟩⟩ := b;have h : x = y := h;rw [h]
 ·rintro rfl;rfl
theorem cmpQ_sw (n : Int) (d : Nat) (m : Int) (e : Nat) : cmpQ m e n d = -cmpQ n d m e := by
 unfold cmpQ;generalize n * e = x;generalize m * d = y;split <;> (try split) <;> (try split) <;> (try split) <;> omega
theorem cmpQ_eq {n m : Int} {d e : Nat} : cmpQ n d m e = 0 ↔ n * e = m * d := by
 unfold cmpQ;generalize n * e = x;generalize m * d = y;split <;> (try split) <;> omega
theorem pM0 (a b : Int) : cmpI b a = -cmpI a b := by
 unfold cmpI;split <;> (try split) <;> (try split) <;> (try split) <;> omega
theorem pN0 {a b : Int} : cmpI a b = 0 ↔ a = b := by
 unfold cmpI;split <;> (try split) <;> omega
structure Sv (v : Vl) : Prop where
 k : v.k ≠ 6
 ok : qG v = true
 i : VlIn v
theorem sv_o {h : List Ob} {v : Vl} (p : v.k ≠ 6) : zY h v = ob0 := uR0 p
theorem nm_same {v w : Vl} (p : Qr.Nm v) (q : Qr.Nm w) (h : Qr.nV v * (Qr.dV w : Int) = Qr.nV w * (Qr.dV v : Int)) : v = w := by
 obtain ⟨h1,h2⟩ := Qr.uniq p.q q.q ((Rat.mkRat_eq_iff (by have := p.q.d0;omega) (by have := q.q.d0;omega)).2 h);rw [p.e,q.e,h1,h2]
theorem tx_same {v w : Vl} (hv : qG v = true) (hw : qG w = true) (hk : v.k = w.k ∧ (v.k = 4 ∨ v.k = 5)) (hs : v.s = w.s) : v = w := by
 have H : ∀ u : Vl,qG u = true → (u.k = 4 ∨ u.k = 5) → u.nn = false ∧ u.nl = [] ∧ u.dn = false ∧ u.dl = [] ∧ u.r = 0 := by
  intro u hu h4;unfold qG at hu;rw [if_neg (by omega),if_neg (by omega),if_neg (by omega),if_neg (by omega)] at hu;rcases h4 with h4 | h4
  ·rw [if_pos h4] at hu;simp only [Bool.and_eq_true,decide_eq_true_eq,zI,bL] at hu;exact ⟨hu.1.1.1.1.1,hu.1.1.1.1.2,hu.1.1.1.2.1,hu.1.1.1.2.2,hu.1.1.2⟩
  ·rw [if_neg (by omega),if_pos h4] at hu;simp only [Bool.and_eq_true,decide_eq_true_eq,zI,bL] at hu;exact ⟨hu.1.1.1.1,hu.1.1.1.2,hu.1.1.2.1,hu.1.1.2.2,hu.1.2⟩
 obtain ⟨a1,a2,a3,a4,a5⟩ := H v hv hk.2;obtain ⟨b1,b2,b3,b4,b5⟩ := H w hw (by omega);obtain ⟨k,nn,nl,dn,dl,s,r⟩ := v;obtain ⟨k',nn',nl',dn',dl',s',r'⟩ := w;simp only at *;obtain ⟨hk1,_⟩ := hk;subst hk1 hs a1 a2 a3 a4 a5 b1 b2 b3 b4 b5;rfl
theorem bT0 {F F' : Nat → Vl → Vl → QR} {G G' G'' : Nat → Vl → Vl → LR} {h : List Ob} {n n' n'' : Nat} {x y : Vl} (px : Sv x) (py : Sv y) {l m t : Bool} {a b c : Nat} (h1 : leP F G h 1 n x y = .ok (l,a)) (h2 : leP F G' h 1 n' y x = .ok (m,b)) (h3 : leP F' G'' h 2 n'' x y = .ok (t,c)) : Tri l m t (decide (x = y)) := by
 have z1 : ¬ n = 0 := fun e => by rw [mJ0 e] at h1;cases h1
 have z2 : ¬ n' = 0 := fun e => by rw [mJ0 e] at h2;cases h2
 have z3 : ¬ n'' = 0 := fun e => by rw [mJ0 e] at h3;cases h3
 by_cases c1 : isN x = true ∧ isN y = true
 ·rw [dO0 z1 c1] at h1;rw [dO0 z2 ⟨c1.2,c1.1⟩] at h2;rw [dO0 z3 c1] at h3
  cases h1;cases h2;cases h3;have hx : x.k = 2 ∨ x.k = 3 := of_decide_eq_true c1.1;have hy : y.k = 2 ∨ y.k = 3 := of_decide_eq_true c1.2;have qx := Qr.nm_of px.i.nl px.i.dl hx px.ok;have qy := Qr.nm_of py.i.nl py.i.dl hy py.ok;rw [show decide (x = y) = decide (cmpQ (rqN x) (rqD x) (rqN y) (rqD y) = 0) from ?_]
  ·exact pY0 (cmpQ_sw _ _ _ _)
  ·rw [(rq_y hx).1,(rq_y hx).2.1,(rq_y hy).1,(rq_y hy).2.1];refine decide_eq_decide.2 ?_;rw [cmpQ_eq];exact ⟨fun e => by rw [e],fun e => nm_same qx qy e⟩
 ·have c1' : ¬ (isN y = true ∧ isN x = true) := fun e => c1 ⟨e.2,e.1⟩;by_cases c2 : x.k = y.k ∧ (x.k = 4 ∨ x.k = 5)
  ·rw [dN0 z1 c1 c2] at h1;rw [dN0 z2 c1' (by omega)] at h2;rw [dN0 z3 c1 c2] at h3
   cases h1;cases h2;cases h3;rw [show decide (x = y) = decide (cmpB x.s y.s = 0) from ?_]
   ·exact pY0 (cmpB_sw _ _)
   ·refine decide_eq_decide.2 ?_;rw [cmpB_eq];exact ⟨fun e => by rw [e],fun e => tx_same px.ok py.ok c2 e⟩
  ·have k0 : (zY h x).kind = 0 := by rw [sv_o px.k];rfl
   rw [dM0 z1 c1 c2 (by omega) (by omega)] at h1
   cases h1
theorem cW {h : List Ob} {f n : Nat} {x y : Vl} {e : Bool} {m : Nat} (px : x.k ≠ 6) (hq : eqS h f n x y = some (e,m)) : e = decide (x = y) := by
 cases f with
 | zero => cases hq
 | succ f =>
  have hq : eqP (eqS h f) h n x y = some (e,m) := hq;have z1 : ¬ n = 0 := fun e => by rw [zV1 e] at hq;cases hq
  by_cases c1 : x = y
  ·rw [dR0 z1 c1] at hq;cases hq;rw [decide_eq_true c1]
  ·rw [pL z1 c1] at hq;have k0 : (zY h x).kind = 0 := by rw [sv_o px];rfl
   rw [decide_eq_false c1];by_cases c2 : (zY h x).kind = (zY h y).kind
   ·rw [ob_x c2 (by omega)] at hq;cases hq;rfl
   ·rw [zM1 c2] at hq;cases hq;rfl
theorem dW0 (a b : List Vl) : zpL a b = a.zip b := by
 refine List.ext_getElem (by simp [zpL]) fun i h1 h2 => ?_;have h3 : i < a.length ∧ i < b.length := by simp [zpL] at h1;omega
 simp [zpL,h3.1,h3.2]
theorem cmpI_s (a b : Nat) : cmpI ((a + 1 : Nat) : Int) ((b + 1 : Nat) : Int) = cmpI a b := by
 unfold cmpI;split <;> (try split) <;> (try split) <;> (try split) <;> omega
theorem bR0 {h : List Ob} {f f1 f2 f3 : Nat} : ∀ (A B : List Vl) (n n' n'' : Nat) (l m t : Bool) (a b c : Nat),(∀ x ∈ A,Sv x) → (∀ x ∈ B,Sv x) →
  liP (eqS h f) (leS h 1 f1) (fitO 1 (cmpI A.length B.length)) (A.zip B) n = .ok (l,a) → liP (eqS h f) (leS h 1 f2) (fitO 1 (cmpI B.length A.length)) (B.zip A) n' = .ok (m,b) → liP (eqS h f) (leS h 2 f3) (fitO 2 (cmpI A.length B.length)) (A.zip B) n'' = .ok (t,c) → Tri l m t (decide (A = B))
 | [],[],_,_,_,l,m,t,_,_,_,_,_,h1,h2,h3 => by
  simp only [List.zip_nil_left,liP] at h1 h2 h3
  cases h1;cases h2;cases h3;rw [decide_eq_true (rfl : ([] : List Vl) = [])];unfold Tri;decide
 | [],y :: B,_,_,_,l,m,t,_,_,_,_,_,h1,h2,h3 => by
  simp only [List.zip_nil_left,List.zip_nil_right,liP] at h1 h2 h3
  cases h1;cases h2;cases h3;have := pY0 (pM0 (([] : List Vl).length : Int) ((y :: B).length : Int))
  rwa [show decide (cmpI (([] : List Vl).length : Int) ((y :: B).length : Int) = 0) = decide (([] : List Vl) = y :: B) from ?_] at this
  refine decide_eq_decide.2 ?_;rw [pN0];exact ⟨fun e => by simp at e;omega,fun e => by cases e⟩
 | x :: A,[],_,_,_,l,m,t,_,_,_,_,_,h1,h2,h3 => by
  simp only [List.zip_nil_left,List.zip_nil_right,liP] at h1 h2 h3
  cases h1;cases h2;cases h3;have := pY0 (pM0 ((x :: A).length : Int) (([] : List Vl).length : Int))
  rwa [show decide (cmpI ((x :: A).length : Int) (([] : List Vl).length : Int) = 0) = decide (x :: A = ([] : List Vl)) from ?_] at this
  refine decide_eq_decide.2 ?_;rw [pN0];exact ⟨fun e => by simp at e;omega,fun e => by cases e⟩
 | x :: A,y :: B,n,n',n'',l,m,t,a,b,c,hA,hB,h1,h2,h3 => by
  have px := hA x List.mem_cons_self;have py := hB y List.mem_cons_self;simp only [List.zip_cons_cons,liP] at h1 h2 h3
  cases q1 : eqS h f n x y with
  | none => rw [q1] at h1;cases h1
  | some r1 =>
   cases q2 : eqS h f n' y x with
   | none => rw [q2] at h2;cases h2
   | some r2 =>
    cases q3 : eqS h f n'' x y with
    | none => rw [q3] at h3;cases h3
    | some r3 =>
     obtain ⟨e1,m1⟩ := r1;obtain ⟨e2,m2⟩ := r2;obtain ⟨e3,m3⟩ := r3;rw [q1] at h1;rw [q2] at h2;rw [q3] at h3;have d1 := cW px.k q1;have d2 := cW py.k q2;have d3 := cW px.k q3;by_cases hxy : x = y
     ·rw [decide_eq_true hxy] at d1 d3;rw [decide_eq_true hxy.symm] at d2;subst d1 d2 d3;simp only [if_true] at h1 h2 h3;rw [List.length_cons,List.length_cons,cmpI_s] at h1 h2 h3;have := bR0 A B m1 m2 m3 l m t a b c (fun z hz => hA z (List.mem_cons_of_mem _ hz)) (fun z hz => hB z (List.mem_cons_of_mem _ hz)) h1 h2 h3
      rwa [show decide (A = B) = decide (x :: A = y :: B) from ?_] at this
      rw [hxy];refine decide_eq_decide.2 ?_;simp
     ·rw [decide_eq_false hxy] at d1 d3;rw [decide_eq_false (fun e => hxy e.symm)] at d2;subst d1 d2 d3;simp only [Bool.false_eq_true,if_false] at h1 h2 h3;rw [show decide (x :: A = y :: B) = decide (x = y) from ?_]
      ·cases f1 with
       | zero => cases h1
       | succ f1 =>
        cases f2 with
        | zero => cases h2
        | succ f2 =>
         cases f3 with
         | zero => cases h3
         | succ f3 => exact bT0 px py h1 h2 h3
      ·refine decide_eq_decide.2 ?_;exact ⟨fun e => by cases e;rfl,fun e => absurd e hxy⟩
theorem pr_dec {h : List Ob} {f n m : Nat} {A B : List Vl} {e : Bool} (hA : ∀ x ∈ A,x.k ≠ 6) (hq : prQ (eqS h f) A B n = some (e,m)) : e = decide (A = B) := by
 cases e with
 | true =>
  obtain ⟨h1,h2⟩ := pr_true hq;refine (decide_eq_true ?_).symm;refine List.ext_getElem h1 fun i hi hj => ?_;obtain ⟨n1,m1,q⟩ := h2 i hi;have := of_decide_eq_true (cW (hA _ (gS hi)) q).symm;exact (List.getElem_eq_getD vl0).trans (this.trans (List.getElem_eq_getD vl0).symm)
 | false =>
  refine (decide_eq_false fun hAB => ?_).symm;subst hAB;rcases pr_false hq with h1 | ⟨i,hi,n1,m1,q⟩
  ·exact h1 rfl
  ·have := of_decide_eq_false (cW (hA _ (gS hi)) q).symm;exact this rfl
theorem wi_refl (h : List Ob) (A : List Vl) : wiB h A A = true := by
 rw [dY0];intro i hi;refine Classical.byContradiction fun hn => ?_;have := plI_no (by omega : plI h A (A.getD i vl0) < 0) _ (gS hi);rw [zI0] at this;cases this
theorem wi_len {h : List Ob} {A B : List Vl} (ka : Dk h A) (hw : wiB h A B = true) : A.length ≤ B.length := by
 rw [dY0] at hw;refine Classical.byContradiction fun hn => ?_;obtain ⟨i,j,h1,h2,h3⟩ := bM0 B.length (fun i => (plI h B (A.getD i vl0)).toNat) fun i hi => (bS (hw i (by omega))).1;have := pl_inj ka (by omega : i < A.length) (by omega : j < A.length) (hw i (by omega)) h3 (hw j (by omega));omega
theorem ls_r {q : LR} (h : (lSt q).k = 0) : ∃ r m,q = .ok (r,m) ∧ (lSt q).v.r = b01 r := by
 cases q with
 | error e => exact absurd h (by show ¬ (1 : Int) = 0;decide)
 | ok q => obtain ⟨r,m⟩ := q;exact ⟨r,m,rfl,by cases r <;> rfl⟩
theorem qs_r2 {q : QR} (h : (qSt q).k = 0) : ∃ r m,q = some (r,m) ∧ (qSt q).v.r = b01 r := by
 cases q with
 | none => exact absurd h (by show ¬ (1 : Int) = 0;decide)
 | some q => obtain ⟨r,m⟩ := q;exact ⟨r,m,rfl,by cases r <;> rfl⟩
theorem ordTot {h : List Ob} (hh : HpIn h) (g : Uh h) (hk : ∀ v : Vl,(zY h v).kind = 3 ∨ (zY h v).kind = 4 → Dk h (zY h v).keys) {f n : Nat} {a b : Vl} (va : Vd h a) (vb : Vd h b) (ia : VlIn a) (ib : VlIn b)
  (pa : (zY h a).kind ≠ 4 → ∀ w ∈ (zY h a).items,w.k ≠ 6) (pb : (zY h b).kind ≠ 4 → ∀ w ∈ (zY h b).items,w.k ≠ 6)
  (hX : (lSt (leS h 1 (f + 1) n a b)).k = 0) (hY : (lSt (leS h 1 (f + 1) n b a)).k = 0) (hZ : (lSt (leS h 2 (f + 1) n a b)).k = 0) (hW : (qSt (eqS h (f + 1) n a b)).k = 0) :
  ((zY h a).kind = 4 → (lSt (leS h 1 (f + 1) n a b)).v.r + (qSt (eqS h (f + 1) n a b)).v.r = (lSt (leS h 2 (f + 1) n a b)).v.r ∧ (lSt (leS h 1 (f + 1) n a b)).v.r + (lSt (leS h 1 (f + 1) n b a)).v.r + (qSt (eqS h (f + 1) n a b)).v.r ≤ 1) ∧
  ((zY h a).kind ≠ 4 → (lSt (leS h 1 (f + 1) n a b)).v.r + (lSt (leS h 1 (f + 1) n b a)).v.r + (qSt (eqS h (f + 1) n a b)).v.r = 1 ∧ (lSt (leS h 1 (f + 1) n a b)).v.r + (qSt (eqS h (f + 1) n a b)).v.r = (lSt (leS h 2 (f + 1) n a b)).v.r) := by
 obtain ⟨l,m1,e1,r1⟩ := ls_r hX;obtain ⟨m,m2,e2,r2⟩ := ls_r hY;obtain ⟨t,m3,e3,r3⟩ := ls_r hZ;obtain ⟨e,m4,e4,r4⟩ := qs_r2 hW;rw [r1,r2,r3,r4];by_cases k1 : a.k ≠ 6 ∧ b.k ≠ 6
 ·have ha0 : (zY h a).kind = 0 := by rw [sv_o k1.1];rfl
  have := bT0 ⟨k1.1,va.1,ia⟩ ⟨k1.2,vb.1,ib⟩ e1 e2 e3;rw [← cW k1.1 e4] at this;exact ⟨fun h4 => by omega,fun _ => this⟩
 ·have e1 : leP (eqS h 10000) (leS h 1 f) h 1 n a b = .ok (l,m1) := e1;have e2 : leP (eqS h 10000) (leS h 1 f) h 1 n b a = .ok (m,m2) := e2;have e3 : leP (eqS h 10000) (leS h 2 f) h 2 n a b = .ok (t,m3) := e3;have e4 : eqP (eqS h f) h n a b = some (e,m4) := e4;have z : ¬ n = 0 := fun e => by rw [mJ0 e] at e1;cases e1
  have c1 : ¬ (isN a = true ∧ isN b = true) := fun q => by
   have hx : a.k = 2 ∨ a.k = 3 := of_decide_eq_true q.1;have hy : b.k = 2 ∨ b.k = 3 := of_decide_eq_true q.2;omega
  have c1' : ¬ (isN b = true ∧ isN a = true) := fun q => c1 ⟨q.2,q.1⟩;have c2 : ¬ (a.k = b.k ∧ (a.k = 4 ∨ a.k = 5)) := by omega
  have c2' : ¬ (b.k = a.k ∧ (b.k = 4 ∨ b.k = 5)) := by omega
  by_cases c3 : (zY h a).kind = (zY h b).kind ∧ ((zY h a).kind = 1 ∨ (zY h a).kind = 2)
  ·rw [gM0 z c1 c2 c3,liQ,dW0] at e1 e3;rw [gM0 z c1' c2' (by omega),liQ,dW0] at e2;refine ⟨fun h4 => by omega,fun _ => ?_⟩;have sa : ∀ x ∈ (zY h a).items,Sv x := fun x hx => ⟨pa (by omega) x hx,(uG g va.2 (by omega) hx).1,gP hh hx⟩;have sb : ∀ x ∈ (zY h b).items,Sv x := fun x hx => ⟨pb (by omega) x hx,(uG g vb.2 (by omega) hx).1,gP hh hx⟩;have := bR0 _ _ _ _ _ l m t m1 m2 m3 sa sb e1 e2 e3
   rwa [show decide ((zY h a).items = (zY h b).items) = e from ?_] at this
   by_cases hab : a = b
   ·rw [dR0 z hab] at e4;cases e4;rw [hab];exact decide_eq_true rfl
   ·rw [pL z hab,mC0 c3.1 c3.2] at e4;exact (pr_dec (fun x hx => (sa x hx).k) e4).symm
  ·by_cases c4 : (zY h a).kind = (zY h b).kind ∧ (zY h a).kind = 4
   ·rw [cJ0 z c1 c2 c4] at e1 e3;rw [cJ0 z c1' c2' (by omega)] at e2;refine ⟨fun _ => ?_,fun h4 => absurd c4.2 h4⟩;have ka := hk a (.inr c4.2);have kb := hk b (.inr (by omega))
    cases e1;cases e2;cases e3;by_cases hab : a = b
    ·rw [dR0 z hab] at e4
     cases e4;subst hab;rw [wi_refl];simp [b01]
    ·rw [pL z hab,ob_4 c4.1 c4.2] at e4
     cases e4
     cases w1 : wiB h (zY h a).keys (zY h b).keys with
     | false =>
      cases w2 : wiB h (zY h b).keys (zY h a).keys <;> simp [b01] <;> split <;> decide
     | true =>
      have hl := wi_len ka w1;rcases Nat.lt_or_ge (zY h a).keys.length (zY h b).keys.length with h5 | h5
      ·rw [decide_eq_true h5,decide_eq_false (by omega : ¬ (zY h b).keys.length < (zY h a).keys.length),decide_eq_false (by omega : ¬ (zY h a).keys.length = (zY h b).keys.length)]
       cases wiB h (zY h b).keys (zY h a).keys <;> decide
      ·rw [decide_eq_false (by omega : ¬ (zY h a).keys.length < (zY h b).keys.length),decide_eq_false (by omega : ¬ (zY h b).keys.length < (zY h a).keys.length),decide_eq_true (by omega : (zY h a).keys.length = (zY h b).keys.length)]
       cases wiB h (zY h b).keys (zY h a).keys <;> decide
   ·rw [dM0 z c1 c2 c3 c4] at e1
    cases e1
variable {md me : Bool}
def s4D (l : List St) : D := .sl false 18 l stD st0
theorem cK0 (q : LR) : 0 ≤ (lSt q).v.r ∧ (lSt q).v.r ≤ 1 := by
 cases q with
 | error e => exact ⟨Int.le_refl _,by show (0 : Int) ≤ 1;decide⟩
 | ok q => obtain ⟨r,m⟩ := q;show 0 ≤ (boV r).r ∧ (boV r).r ≤ 1;cases r <;> decide
theorem qSt_r (q : QR) : 0 ≤ (qSt q).v.r ∧ (qSt q).v.r ≤ 1 := by
 cases q with
 | none => exact ⟨Int.le_refl _,by show (0 : Int) ≤ 1;decide⟩
 | some q => obtain ⟨r,m⟩ := q;show 0 ≤ (boV r).r ∧ (boV r).r ≤ 1;cases r <;> decide
set_option maxHeartbeats 4000000 in
theorem Law31_ok (h : List Ob) (a b : Vl) (hh : HpIn h) (hia : VlIn a) (hib : VlIn b) : Fn Tryz.prog 4 [hpD md h,.agg (vlD a),.agg (vlD b)] (.v (.bool true)) := by
 refine yG zL Tryz.func4 rfl rfl rfl rfl rfl rfl ?_;intro w0 s0 mx;refine zJ 100 ?_;refine zB ?_;refine zB (zE zL [] 200 rfl ?_);refine zF ?_;refine zR _ ((Usable_ok h [a,b] hh (fun u hu => by simp only [List.mem_cons,List.not_mem_nil,or_false] at hu;rcases hu with rfl | rfl <;> assumption) (by show 2 ≤ 2000000;omega)).args ⟨SubP.refl _,SubP.slrSl rfl,trivial⟩) rfl ?_
 refine zF ?_;refine zC (zA (zT rfl (fun c1 => ?_) (fun c1 => ?_)))
 ·
  refine zJ 300 ?_;refine zM (zO ?_);exact FinV.ret rfl (SubP.refl _)
 ·have hq : (jQ h).1 = 0 ∧ hasS h a = true ∧ hasS h b = true := by
   have hu : mR h [a,b] = true := by simpa using c1
   simp only [mR,Bool.and_eq_true,decide_eq_true_eq,List.all_cons,List.all_nil,Bool.and_true] at hu;exact hu
  have g : Uh h := uh_of hq.1;have va := bY0 hq.2.1;have vb := bY0 hq.2.2;obtain ⟨X,hX⟩ : ∃ X,X = lSt (leS h 1 10000 10000 a b) := ⟨_,rfl⟩;obtain ⟨Y,hY⟩ : ∃ Y,Y = lSt (leS h 1 10000 10000 b a) := ⟨_,rfl⟩;obtain ⟨Z,hZ⟩ : ∃ Z,Z = lSt (leS h 2 10000 10000 a b) := ⟨_,rfl⟩;obtain ⟨W,hW⟩ : ∃ W,W = qSt (eqS h 10000 10000 a b) := ⟨_,rfl⟩;have bX : 0 ≤ X.v.r ∧ X.v.r ≤ 1 := by rw [hX];exact cK0 _
  have bY : 0 ≤ Y.v.r ∧ Y.v.r ≤ 1 := by rw [hY];exact cK0 _
  have bZ : 0 ≤ Z.v.r ∧ Z.v.r ≤ 1 := by rw [hZ];exact cK0 _
  have bW : 0 ≤ W.v.r ∧ W.v.r ≤ 1 := by rw [hW];exact qSt_r _
  have tt : ((zY h a).kind ≠ 4 → ∀ w ∈ (zY h a).items,w.k ≠ 6) → ((zY h b).kind ≠ 4 → ∀ w ∈ (zY h b).items,w.k ≠ 6) → X.k = 0 → Y.k = 0 → Z.k = 0 → W.k = 0 → ((zY h a).kind = 4 → X.v.r + W.v.r = Z.v.r ∧ X.v.r + Y.v.r + W.v.r ≤ 1) ∧ ((zY h a).kind ≠ 4 → X.v.r + Y.v.r + W.v.r = 1 ∧ X.v.r + W.v.r = Z.v.r) := by
   intro p1 p2 k1 k2 k3 k4;rw [hX] at k1 ⊢;rw [hY] at k2 ⊢;rw [hZ] at k3 ⊢;rw [hW] at k4 ⊢;exact ordTot (f := 9999) hh g (kd_dk g) va vb hia hib p1 p2 k1 k2 k3 k4
  refine zK (zA (zB (zJ 400 ?_)));refine qZ [3,4,5,28,29] [0,1,2] 410 [(27,vsD [a,b])] [] ?_;refine ⟨⟨⟨Sub.slrSl rfl,yL⟩,yI,rfl,rfl⟩,?_⟩;refine zP ?_;refine yB (ι := {k : Nat // k ≤ 2 ∧ ∀ j < k,(zY h ([a,b].getD j vl0)).kind ≠ 4 → ∀ w ∈ (zY h ([a,b].getD j vl0)).items,w.k ≠ 6}) [3,4,5,27,28] [0,1,2] 450 (fun x => [(29,.v (.int .i64 x.1))]) (fun _ => []) (fun x => 2 - x.1) ⟨0,by decide,fun j h => absurd h (Nat.not_lt_zero _)⟩ ?_;refine ⟨⟨yL,yI,rfl,rfl⟩,fun x => ?_⟩;have hk : x.1 ≤ 2 := x.2.1;refine zJ 500 ?_;refine zB (zT rfl (fun c4 => ?_) (fun c4 => ?_))
  ·have hlt : x.1 < 2 := by
    have h9 := c4;simp at h9;omega
   refine zK (zA (zB (zP (zJ 600 ?_))));refine zB (zE zL [] 700 rfl ?_);refine zF ?_;refine zR _ (uC h _) rfl ?_;refine zF ?_;refine zC (zA (zJ 800 ?_));refine zP ?_;refine yB (ι := {k : Nat // k ≤ (zY h ([a,b].getD x.1 vl0)).items.length ∧ ∀ j < k,(zY h ([a,b].getD x.1 vl0)).kind ≠ 4 → ((zY h ([a,b].getD x.1 vl0)).items.getD j vl0).k ≠ 6}) [3,4,5,9,27,28,29,37,38] [0,1,2,603] 850 (fun y => [(39,.v (.int .i64 y.1))]) (fun _ => []) (fun y => (zY h ([a,b].getD x.1 vl0)).items.length - y.1) ⟨0,Nat.zero_le _,fun j h => absurd h (Nat.not_lt_zero _)⟩ ?_;refine ⟨⟨yL,yI,rfl,rfl⟩,fun y => ?_⟩;have hky := y.2.1;have hl0 := (jX g ([a,b].getD x.1 vl0)).2;refine zJ 900 ?_;refine zB (zT rfl (fun c8 => ?_) (fun c8 => ?_))
   ·have hly : y.1 < (zY h ([a,b].getD x.1 vl0)).items.length := by
     have h9 := c8;simp only [Int.toNat_natCast] at h9;simpa using h9
    refine zK (zA (zB (zP (zJ 1000 ?_))));refine zJ 1100 ?_;refine zT rfl (fun c10 => ?_) (fun c10 => ?_)
    ·
     refine zJ 1200 ?_;refine zM (zQ (zO (yK (zQ (zQ (zO (yK (zQ (zO ?_)))))))));exact FinV.ret rfl (SubP.refl _)
    ·have hne : ¬ ((zY h ([a,b].getD x.1 vl0)).kind ≠ 4 ∧ ((zY h ([a,b].getD x.1 vl0)).items.getD y.1 vl0).k = 6) := by
      have h9 := c10;simp only [Int.toNat_natCast,Bool.and_eq_false_iff,Bool.not_eq_false',decide_eq_true_eq,decide_eq_false_iff_not] at h9;intro hc;rcases h9 with h9 | h9
      ·exact hc.1 h9
      ·exact h9 hc.2
     refine zK (zN (zA (yN zL [] 1300 ?_)));exact zS (⟨y.1 + 1,by omega,fun j hj => by
      rcases Nat.lt_or_ge j y.1 with h8 | h8
      ·exact y.2.2 j h8
      ·rw [show j = y.1 by omega];exact fun h4 h6 => hne ⟨h4,h6⟩⟩) ⟨⟨Sub.int (by push_cast;rfl),yL⟩,yI,rfl,rfl⟩ (by show (zY h ([a,b].getD x.1 vl0)).items.length - (y.1 + 1) < (zY h ([a,b].getD x.1 vl0)).items.length - y.1;omega)
   ·have hly : ¬ y.1 < (zY h ([a,b].getD x.1 vl0)).items.length := by
     have h9 := c8;simp only [Int.toNat_natCast] at h9;simpa using h9
    refine yF (zZ (yA (zW (zN (zA (yN zL [] 1400 ?_))))));exact zS (⟨x.1 + 1,by omega,fun j hj => by
     rcases Nat.lt_or_ge j x.1 with h8 | h8
     ·exact x.2.2 j h8
     ·rw [show j = x.1 by omega];intro h4 w hw;obtain ⟨i,hi,ei⟩ := List.getElem_of_mem hw;have := y.2.2 i (by omega) h4
      rwa [← List.getElem_eq_getD (h := hi) vl0,ei] at this⟩) ⟨⟨Sub.int (by push_cast;rfl),yL⟩,yI,rfl,rfl⟩ (by show 2 - (x.1 + 1) < 2 - x.1;omega)
  ·have he2 : x.1 = 2 := by
    have h9 := c4;simp at h9;omega
   have tt2 := tt (x.2.2 0 (by omega)) (x.2.2 1 (by omega));refine yF (zZ (yA (zW (zA ?_))));refine zB (yD zL [] mK12 1500 yU (by kernel_rfl) rfl ?_);refine zF ?_;refine zR _ (Fn.eqo (pN h 1 a b hh g va vb hia hib) (congrArg (fun s => D.agg (stD s)) hX.symm)) rfl ?_;refine zF ?_;refine zR _ (Fn.eqo (pN h 1 b a hh g vb va hib hia) (congrArg (fun s => D.agg (stD s)) hY.symm)) rfl ?_;refine zF ?_;refine zC (zA ?_);refine zB (yD zL [] mK12 1600 yU (by kernel_rfl) rfl ?_);refine zF ?_;refine zR _ (Fn.eqo (pN h 2 a b hh g va vb hia hib) (congrArg (fun s => D.agg (stD s)) hZ.symm)) rfl ?_;refine zF ?_;refine zR _ (Fn.eqo (cmpEqual_ok h a b hh g va vb) (congrArg (fun s => D.agg (stD s)) hW.symm)) rfl ?_;refine zF ?_;refine zC (zA (zB (zJ 1700 ?_)));refine qZ [3,4,12,13,14,15,74,75] [0,1,508,509,1508,1509] 1710 [(73,s4D [X,Y,Z,W])] [] ?_;refine ⟨⟨⟨Sub.slrSl rfl,yL⟩,yI,rfl,rfl⟩,?_⟩;refine zP ?_;refine yB (ι := {k : Nat // k ≤ 4 ∧ ∀ j < k,([X,Y,Z,W].getD j st0).k = 0}) [3,4,12,13,14,15,73,74] [0,1,508,509,1508,1509] 1750 (fun z => [(75,.v (.int .i64 z.1))]) (fun _ => []) (fun z => 4 - z.1) ⟨0,by decide,fun j h => absurd h (Nat.not_lt_zero _)⟩ ?_;refine ⟨⟨yL,yI,rfl,rfl⟩,fun z => ?_⟩;have hkz : z.1 ≤ 4 := z.2.1;refine zJ 1800 ?_;refine zB (zT rfl (fun c17 => ?_) (fun c17 => ?_))
   ·have hlz : z.1 < 4 := by
     have h9 := c17;simp at h9;omega
    refine zK (zA (zB (zP (zJ 1900 ?_))));refine zJ 2000 ?_;refine zT rfl (fun c19 => ?_) (fun c19 => ?_)
    ·
     refine zJ 2100 ?_;refine zM (zQ (zO (yK (zQ (zO ?_)))));exact FinV.ret rfl (SubP.refl _)
    ·have hzk : ([X,Y,Z,W].getD z.1 st0).k = 0 := by
      have h9 := c19;simp only [Int.toNat_natCast] at h9;simpa using h9
     refine zK (zN (zA (yN zL [] 2200 ?_)));exact zS (⟨z.1 + 1,by omega,fun j hj => by
      rcases Nat.lt_or_ge j z.1 with h8 | h8
      ·exact z.2.2 j h8
      ·rw [show j = z.1 by omega];exact hzk⟩) ⟨⟨Sub.int (by push_cast;rfl),yL⟩,yI,rfl,rfl⟩ (by show 4 - (z.1 + 1) < 4 - z.1;omega)
   ·have he4 : z.1 = 4 := by
     have h9 := c17;simp at h9;omega
    have cc := tt2 (z.2.2 0 (by omega)) (z.2.2 1 (by omega)) (z.2.2 2 (by omega)) (z.2.2 3 (by omega));refine yF (zZ (yA (zW (zA (zB ?_)))));refine zB (zE zL [] 2300 rfl ?_);refine zF ?_;refine zR _ (uC h a) rfl ?_;refine zF ?_;refine zC (zA (zJ 2400 ?_));refine zT rfl (fun c23 => ?_) (fun c23 => ?_)
    ·have c23 : (zY h a).kind = 4 := by simpa using c23
     refine zJ 2500 ?_;refine zM (zO ?_);exact FinV.ret rfl (SubP.bool (by have := cc.1 c23;simp [this]))
    ·have c23 : (zY h a).kind ≠ 4 := by simpa using c23
     refine zK (zA (zJ 2600 ?_));refine zM ?_;exact FinV.ret rfl (SubP.bool (by have := cc.2 c23;simp [this]))
open Go.ChangeShapes Go.WideShapes Go.ChangeAt Go.RowKit Go.Deep
theorem xY0 {H : Type} {d : DataW H} {l : List (DataW H)} (h : d ∈ l) : Rows.uptoBulk d ≤ Rows.uptoBulkAll l := by
 induction l with
 | nil => cases h
 | cons x r ih =>
  simp only [Rows.uptoBulkAll]
  cases List.mem_cons.1 h with
  | inl e => subst e;omega
  | inr e => have := ih e;omega
theorem bulk_one {H : Type} (d : DataW H) : 1 ≤ Rows.uptoBulk d := by
 cases d with
 | lit l => cases l <;> simp [Rows.uptoBulk]
 | nil => simp [Rows.uptoBulk]
 | ptr d => simp [Rows.uptoBulk]
 | slice elems spare => simp [Rows.uptoBulk]
 | agg parts => simp [Rows.uptoBulk]
 | iface t d => simp [Rows.uptoBulk]
 | map entries => simp [Rows.uptoBulk]
 | held h => simp [Rows.uptoBulk]
theorem bulk_length {H : Type} (l : List (DataW H)) : l.length ≤ Rows.uptoBulkAll l := by
 induction l with
 | nil => simp [Rows.uptoBulkAll]
 | cons x r ih => have := bulk_one x;simp only [Rows.uptoBulkAll,List.length_cons];omega
theorem qJ {H : Type} {l : List (DataW H × List MemPlace)} {i : Nat} {y : DataW H × List MemPlace} (h : l[i]? = some y) {n : Nat} (hn : Rows.uptoBulk (DataW.agg (l.map (·.1))) ≤ n) : Rows.uptoBulk y.1 ≤ n := by
 have h1 : y.1 ∈ l.map (·.1) := List.mem_map.2 ⟨y,List.mem_of_getElem? h,rfl⟩;have h2 := xY0 h1;simp only [Rows.uptoBulk] at hn;omega
def sW (W : World) : Sb := ⟨fun b _ => b < W.heap.size,fun b _ => b < W.heap.size,fun _ _ h => h⟩
def I64 (x : Int) : Prop := -9223372036854775808 ≤ x ∧ x ≤ 9223372036854775807
theorem i64_wf {x : Int} (h : (Lit.int .i64 x).wf = true) : I64 x := by
 simp [Lit.wf] at h;have h1 : IntKind.i64.min = -9223372036854775808 := by decide
 have h2 : IntKind.i64.max = 9223372036854775807 := by decide
 unfold I64;omega
theorem u32_wf {x : Int} (h : (Lit.int .u32 x).wf = true) : 0 ≤ x ∧ x < 4294967296 := by
 simp [Lit.wf] at h;have h1 : IntKind.u32.min = 0 := by decide
 have h2 : IntKind.u32.max = 4294967295 := by decide
 omega
def Opn {H : Type} (enc : TypeId × Value → H) (P : Program) (W : World) (t : TypeId) {α : Type} (f : α → List D) (Q : α → Nat → Prop) : Prop :=
 ∀ (fuel : Nat) (cs : List Value) (d : DataW H) (ps : List MemPlace),cs.length = P.cellsOf t → DataW.trod enc P W 0 (fun _ => true) true fuel t cs = some (d,ps) →
  ∃ x,AllV W (sW W) (D.pvs (f x)) cs ∧ (∀ c ∈ cs,c.oneCell' = true) ∧ ∀ n,Rows.uptoBulk d ≤ n → Q x n
section
variable {H : Type} {enc : TypeId × Value → H} {P : Program} {W : World}
theorem pE {c : Value} (h : c.oneCell' = true) : ∀ x ∈ [c],x.oneCell' = true := fun x hx => by rw [List.mem_singleton] at hx;rw [hx];exact h
theorem Opn.int {t : TypeId} (ht : P.underlying t = some (.int .i64)) : Opn enc P W t iD (fun x _ => I64 x) := by
 intro fuel cs d ps _ h;obtain ⟨k,rfl,_,wf⟩ := DataW.trod_int ht h;exact ⟨k,⟨rfl,trivial⟩,pE rfl,fun _ _ => i64_wf wf⟩
theorem Opn.u32 {t : TypeId} (ht : P.underlying t = some (.int .u32)) : Opn enc P W t uD (fun x _ => x < 4294967296) := by
 intro fuel cs d ps _ h;obtain ⟨k,rfl,_,wf⟩ := DataW.trod_int ht h;have h1 := u32_wf wf;refine ⟨k.toNat,⟨?_,trivial⟩,pE rfl,fun _ _ => by omega⟩;show Value.int .u32 k = .int .u32 (k.toNat : Nat);rw [Int.toNat_of_nonneg h1.1]
theorem Opn.bool {t : TypeId} (ht : P.underlying t = some .bool) : Opn enc P W t (fun b : Bool => [.v (.bool b)]) (fun _ _ => True) := by
 intro fuel cs d ps _ h;obtain ⟨k,rfl,_⟩ := DataW.trod_bool ht h;exact ⟨k,⟨rfl,trivial⟩,pE rfl,fun _ _ => trivial⟩
theorem Opn.str {t : TypeId} (ht : P.underlying t = some .string) : Opn enc P W t sD (fun s n => s.size ≤ n) := by
 intro fuel cs d ps _ h;obtain ⟨k,rfl,hx,_⟩ := DataW.trod_string ht h;refine ⟨k,⟨rfl,trivial⟩,pE rfl,fun n hn => ?_⟩;simp only [Prod.mk.injEq] at hx;rw [hx.1] at hn;simp only [Rows.uptoBulk] at hn;have e : k.data.toList.length = k.size := by rw [Array.length_toList];rfl
 omega
theorem Opn.sl {α : Type} {f : α → List D} {Q : α → Nat → Prop} {t e : TypeId} {sz : Nat} (e0 : α) (ht : P.underlying t = some (.slice e)) (hc : P.cellsOf e = sz) (hz : 0 < sz) (he : Opn enc P W e f Q) :
  Opn enc P W t (fun l => [.sl false sz l f e0]) (fun l n => l.length ≤ n ∧ ∀ x ∈ l,Q x n) := by
 intro fuel cs d ps _ h;rcases open_slice ht h with ⟨rfl,hx⟩ | ⟨a,len,cap,m,n,D',Pl,rfl,_,hl,hm,hmm,hx,hel⟩
 ·exact ⟨[],⟨PV.sl_nil,trivial⟩,pE rfl,fun _ _ => ⟨Nat.zero_le _,fun x hx => by cases hx⟩⟩
 ·simp only [if_true] at hmm;subst hmm;have hq : ∀ i,i < len → ∃ x : α,∃ cs',W.cells? 0 (a.add (i * sz)) sz = some cs' ∧ AllV W (sW W) (D.pvs (f x)) cs' ∧ (∀ c ∈ cs',c.oneCell' = true) ∧ ∀ n,Rows.uptoBulk (D' i) ≤ n → Q x n := fun i hi => by
   obtain ⟨cs',h1,h2⟩ := hel i (by omega);rw [hc] at h1;obtain ⟨_,hlen,_⟩ := World.cells?_some h1;obtain ⟨x,hx1,hx2,hx3⟩ := he n cs' (D' i) (Pl i) (by omega) h2;exact ⟨x,cs',h1,hx1,hx2,hx3⟩
  obtain ⟨g,hg⟩ : ∃ g : Nat → α,∀ i,i < len → ∃ cs',W.cells? 0 (a.add (i * sz)) sz = some cs' ∧ AllV W (sW W) (D.pvs (f (g i))) cs' ∧ (∀ c ∈ cs',c.oneCell' = true) ∧ ∀ n,Rows.uptoBulk (D' i) ≤ n → Q (g i) n :=
   ⟨fun i => if h : i < len then Classical.choose (hq i h) else e0,fun i hi => by simp only [dif_pos hi];exact Classical.choose_spec (hq i hi)⟩
  have hrl : (((List.range len).map g).map fun a => D.pvs (f a)).length = len := by simp
  refine ⟨(List.range len).map g,⟨⟨some a,m,?_,?_,?_,?_,?_⟩,trivial⟩,pE rfl,fun n hn => ?_⟩
  ·show Value.slice (some a) len m = Value.slice (some a) (((List.range len).map g).map fun a => D.pvs (f a)).length m;rw [hrl]
  ·show (((List.range len).map g).map fun a => D.pvs (f a)).length ≤ m;rw [hrl];exact hl
  ·have : maxLen = 9223372036854775807 := by decide
   omega
  ·intro row hrow;have hrow : row ∈ ((List.range len).map g).map fun a => D.pvs (f a) := hrow;rw [List.map_map] at hrow;obtain ⟨i,hi,rfl⟩ := List.mem_map.1 hrow;obtain ⟨cs',h1,h2,-⟩ := hg i (List.mem_range.1 hi);have h3 := h2.length;obtain ⟨_,h4,_⟩ := World.cells?_some h1;show (D.pvs (f (g i))).length = sz;omega
  ·intro i row hrow;have hrow : (((List.range len).map g).map fun a => D.pvs (f a))[i]? = some row := hrow;rw [List.map_map,List.getElem?_map] at hrow;obtain ⟨j,hj,rfl⟩ := Option.map_eq_some_iff.1 hrow;have hi : i < len := by have := (List.getElem?_eq_some_iff.1 hj).1;simpa using this
   rw [List.getElem?_range hi] at hj
   cases hj;obtain ⟨cs',h1,h2,h3,-⟩ := hg i hi;obtain ⟨_,h4,h5⟩ := World.cells?_some h1;obtain ⟨b,off,spot⟩ := a
   cases spot with
   | some sp =>
    obtain ⟨cs0,k1,-⟩ := hg 0 (by omega);obtain ⟨_,k4,k5⟩ := World.cells?_some k1;have h6 := k5 0 hz;rw [List.getElem?_eq_getElem (by omega)] at h6;have := World.cell?_spot h6;simp [Addr.add] at this
   | none =>
    refine ⟨b,off,rfl,fun j d hd => ?_⟩;obtain ⟨v,hv,hp⟩ := h2.get hd;have hj : j < cs'.length := (List.getElem?_eq_some_iff.1 hv).1;have h6 := h5 j (by omega);rw [hv] at h6;have h7 : W.cell? ⟨b,off + i * sz + j,none⟩ = some v := by rw [add_plain,add_plain] at h6;exact h6
    exact ⟨v,h7,(World.block_lt_of_cell? _ _ h7 : b < W.heap.size),hp,h3 v (List.mem_of_getElem? hv)⟩
  ·simp only [Prod.mk.injEq] at hx;rw [hx.1] at hn;simp only [Rows.uptoBulk] at hn;have h1 := bulk_length ((List.range len).map D');simp only [List.length_map,List.length_range] at h1;refine ⟨by simp;omega,fun x hx => ?_⟩;obtain ⟨i,hi,rfl⟩ := List.mem_map.1 hx;obtain ⟨cs',-,-,-,h4⟩ := hg i (List.mem_range.1 hi);exact h4 n (by have := xY0 (d := D' i) (l := (List.range len).map D') (List.mem_map.2 ⟨i,hi,rfl⟩);omega)
end
theorem list5 {α : Type} {l : List α} (h : l.length = 5) : ∃ c0 c1 c2 c3 c4,l = [c0,c1,c2,c3,c4] := by
 match l,h with
 | [c0,c1,c2,c3,c4],_ => exact ⟨c0,c1,c2,c3,c4,rfl⟩
theorem list7 {α : Type} {l : List α} (h : l.length = 7) : ∃ c0 c1 c2 c3 c4 c5 c6,l = [c0,c1,c2,c3,c4,c5,c6] := by
 match l,h with
 | [c0,c1,c2,c3,c4,c5,c6],_ => exact ⟨c0,c1,c2,c3,c4,c5,c6,rfl⟩
theorem bP0 {α : Type} {l : List α} (h : l.length = 10) : ∃ c0 c1 c2 c3 c4 c5 c6 c7 c8 c9,l = [c0,c1,c2,c3,c4,c5,c6,c7,c8,c9] := by
 match l,h with
 | [c0,c1,c2,c3,c4,c5,c6,c7,c8,c9],_ => exact ⟨c0,c1,c2,c3,c4,c5,c6,c7,c8,c9,rfl⟩
theorem jI {W : World} {s : Sb} {d : D} {c : Value} (h : AllV W s (D.pvs [d]) [c]) : d.pv.p W s c := h.1
section
variable {H : Type} {enc : TypeId × Value → H} {W : World}
def intD (p : Bool × List Nat) : List D := [.v (.bool p.1),usD p.2]
set_option maxRecDepth 100000 in
theorem Opn.bigI : Opn enc Tryz.prog W 27 intD (fun p n => p.2.length ≤ n ∧ ∀ x ∈ p.2,x < 4294967296) := by
 intro fuel cs d ps hl h;have e4 : Tryz.prog.cellsOf 4 = 1 := by kernel_rfl
 have e22 : Tryz.prog.cellsOf 25 = 1 := by kernel_rfl
 have eI : Tryz.prog.cellsOf 27 = 2 := by kernel_rfl
 rw [eI] at hl
 match cs,hl with
 | [c0,c1],_ =>
  obtain ⟨xs,n1,_,hx,_,hlen,hg⟩ := DataW.trod_struct Tryz.underlying27 h
  match xs,hlen with
  | [y0,y1],_ =>
   have g0 : DataW.trod enc Tryz.prog W 0 (fun _ => true) true n1 4 (([c0,c1].drop 0).take (Tryz.prog.cellsOf 4)) = some y0 := hg 0 _ rfl;rw [e4] at g0
   replace g0 : DataW.trod enc Tryz.prog W 0 (fun _ => true) true n1 4 [c0] = some y0 := g0
   have g1 : DataW.trod enc Tryz.prog W 0 (fun _ => true) true n1 25 (([c0,c1].drop 1).take (Tryz.prog.cellsOf 25)) = some y1 := hg 1 _ rfl;rw [e22] at g1
   replace g1 : DataW.trod enc Tryz.prog W 0 (fun _ => true) true n1 25 [c1] = some y1 := g1
   obtain ⟨x0,a0,o0,q0⟩ := Opn.bool Tryz.underlying4 _ _ y0.1 y0.2 (by rw [e4];rfl) g0;obtain ⟨x1,a1,o1,q1⟩ := Opn.sl 0 Tryz.underlying25 (sz := 1) (by kernel_rfl) (by decide) (Opn.u32 Tryz.underlying126) _ _ y1.1 y1.2 (by rw [e22];rfl) g1;simp only [Prod.mk.injEq] at hx;refine ⟨(x0,x1),⟨jI a0,jI a1,trivial⟩,fun c hc => ?_,fun n hn => ?_⟩
   ·simp only [List.mem_cons,List.not_mem_nil,or_false] at hc;rcases hc with rfl | rfl
    ·exact o0 _ (by simp)
    ·exact o1 _ (by simp)
   ·rw [hx.1] at hn;exact q1 n (qJ (i := 1) (y := y1) rfl hn)
set_option maxRecDepth 100000 in
theorem Opn.val : Opn enc Tryz.prog W 29 vlD (fun v n => n ≤ 1048576 → VlIn v) := by
 intro fuel cs d ps hl h;have e3 : Tryz.prog.cellsOf 3 = 1 := by kernel_rfl
 have e9 : Tryz.prog.cellsOf 9 = 1 := by kernel_rfl
 have e24 : Tryz.prog.cellsOf 27 = 2 := by kernel_rfl
 have eV : Tryz.prog.cellsOf 29 = 7 := by kernel_rfl
 rw [eV] at hl;obtain ⟨c0,c1,c2,c3,c4,c5,c6,rfl⟩ := list7 hl;obtain ⟨xs,n1,_,hx,_,hlen,hg⟩ := DataW.trod_struct Tryz.underlying29 h;obtain ⟨y0,y1,y2,y3,y4,rfl⟩ := list5 hlen;have g0 : DataW.trod enc Tryz.prog W 0 (fun _ => true) true n1 3 (([c0,c1,c2,c3,c4,c5,c6].drop 0).take (Tryz.prog.cellsOf 3)) = some y0 := hg 0 _ rfl;rw [e3] at g0
 replace g0 : DataW.trod enc Tryz.prog W 0 (fun _ => true) true n1 3 [c0] = some y0 := g0
 have g1 : DataW.trod enc Tryz.prog W 0 (fun _ => true) true n1 27 (([c0,c1,c2,c3,c4,c5,c6].drop 1).take (Tryz.prog.cellsOf 27)) = some y1 := hg 1 _ rfl;rw [e24] at g1
 replace g1 : DataW.trod enc Tryz.prog W 0 (fun _ => true) true n1 27 [c1,c2] = some y1 := g1
 have g2 : DataW.trod enc Tryz.prog W 0 (fun _ => true) true n1 27 (([c0,c1,c2,c3,c4,c5,c6].drop 3).take (Tryz.prog.cellsOf 27)) = some y2 := hg 2 _ rfl;rw [e24] at g2
 replace g2 : DataW.trod enc Tryz.prog W 0 (fun _ => true) true n1 27 [c3,c4] = some y2 := g2
 have g3 : DataW.trod enc Tryz.prog W 0 (fun _ => true) true n1 9 (([c0,c1,c2,c3,c4,c5,c6].drop 5).take (Tryz.prog.cellsOf 9)) = some y3 := hg 3 _ rfl;rw [e9] at g3
 replace g3 : DataW.trod enc Tryz.prog W 0 (fun _ => true) true n1 9 [c5] = some y3 := g3
 have g4 : DataW.trod enc Tryz.prog W 0 (fun _ => true) true n1 3 (([c0,c1,c2,c3,c4,c5,c6].drop 6).take (Tryz.prog.cellsOf 3)) = some y4 := hg 4 _ rfl;rw [e3] at g4
 replace g4 : DataW.trod enc Tryz.prog W 0 (fun _ => true) true n1 3 [c6] = some y4 := g4
 obtain ⟨x0,a0,o0,q0⟩ := Opn.int Tryz.underlying3 _ _ y0.1 y0.2 (by rw [e3];rfl) g0;obtain ⟨x1,a1,o1,q1⟩ := Opn.bigI _ _ y1.1 y1.2 (by rw [e24];rfl) g1;obtain ⟨x2,a2,o2,q2⟩ := Opn.bigI _ _ y2.1 y2.2 (by rw [e24];rfl) g2;obtain ⟨x3,a3,o3,q3⟩ := Opn.str Tryz.underlying9 _ _ y3.1 y3.2 (by rw [e9];rfl) g3;obtain ⟨x4,a4,o4,q4⟩ := Opn.int Tryz.underlying3 _ _ y4.1 y4.2 (by rw [e3];rfl) g4;simp only [Prod.mk.injEq] at hx;refine ⟨⟨x0,x1.1,x1.2,x2.1,x2.2,x3,x4⟩,⟨jI a0,a1.1,a1.2.1,a2.1,a2.2.1,jI a3,jI a4,trivial⟩,fun c hc => ?_,fun n hn hn2 => ?_⟩
 ·simp only [List.mem_cons,List.not_mem_nil,or_false] at hc;rcases hc with rfl | rfl | rfl | rfl | rfl | rfl | rfl
  ·exact o0 _ (by simp)
  ·exact o1 _ (by simp)
  ·exact o1 _ (by simp)
  ·exact o2 _ (by simp)
  ·exact o2 _ (by simp)
  ·exact o3 _ (by simp)
  ·exact o4 _ (by simp)
 ·rw [hx.1] at hn;have b0 := q0 n (qJ (i := 0) (y := y0) rfl hn);have b1 := q1 n (qJ (i := 1) (y := y1) rfl hn);have b2 := q2 n (qJ (i := 2) (y := y2) rfl hn);have b3 := q3 n (qJ (i := 3) (y := y3) rfl hn);have b4 := q4 n (qJ (i := 4) (y := y4) rfl hn);exact ⟨b0.1,b0.2,b4.1,b4.2,b1.2,b2.2,by show x1.2.length ≤ _;omega,by show x2.2.length ≤ _;omega,by show x3.size ≤ _;omega⟩
set_option maxRecDepth 100000 in
theorem Opn.obj : Opn enc Tryz.prog W 41 obD (fun o n => n ≤ 1048576 → ObIn o) := by
 intro fuel cs d ps hl h;have e3 : Tryz.prog.cellsOf 3 = 1 := by kernel_rfl
 have e9 : Tryz.prog.cellsOf 9 = 1 := by kernel_rfl
 have eI : Tryz.prog.cellsOf 38 = 1 := by kernel_rfl
 have eS : Tryz.prog.cellsOf 39 = 1 := by kernel_rfl
 have eV : Tryz.prog.cellsOf 31 = 1 := by kernel_rfl
 have eO : Tryz.prog.cellsOf 41 = 10 := by kernel_rfl
 rw [eO] at hl;obtain ⟨c0,c1,c2,c3,c4,c5,c6,c7,c8,c9,rfl⟩ := bP0 hl;obtain ⟨xs,n1,_,hx,_,hlen,hg⟩ := DataW.trod_struct Tryz.underlying41 h;obtain ⟨y0,y1,y2,y3,y4,y5,y6,y7,y8,y9,rfl⟩ := bP0 hlen;have g0 : DataW.trod enc Tryz.prog W 0 (fun _ => true) true n1 3 (([c0,c1,c2,c3,c4,c5,c6,c7,c8,c9].drop 0).take (Tryz.prog.cellsOf 3)) = some y0 := hg 0 _ rfl;rw [e3] at g0
 replace g0 : DataW.trod enc Tryz.prog W 0 (fun _ => true) true n1 3 [c0] = some y0 := g0
 have g1 : DataW.trod enc Tryz.prog W 0 (fun _ => true) true n1 9 (([c0,c1,c2,c3,c4,c5,c6,c7,c8,c9].drop 1).take (Tryz.prog.cellsOf 9)) = some y1 := hg 1 _ rfl;rw [e9] at g1
 replace g1 : DataW.trod enc Tryz.prog W 0 (fun _ => true) true n1 9 [c1] = some y1 := g1
 have g2 : DataW.trod enc Tryz.prog W 0 (fun _ => true) true n1 3 (([c0,c1,c2,c3,c4,c5,c6,c7,c8,c9].drop 2).take (Tryz.prog.cellsOf 3)) = some y2 := hg 2 _ rfl;rw [e3] at g2
 replace g2 : DataW.trod enc Tryz.prog W 0 (fun _ => true) true n1 3 [c2] = some y2 := g2
 have g3 : DataW.trod enc Tryz.prog W 0 (fun _ => true) true n1 38 (([c0,c1,c2,c3,c4,c5,c6,c7,c8,c9].drop 3).take (Tryz.prog.cellsOf 38)) = some y3 := hg 3 _ rfl;rw [eI] at g3
 replace g3 : DataW.trod enc Tryz.prog W 0 (fun _ => true) true n1 38 [c3] = some y3 := g3
 have g4 : DataW.trod enc Tryz.prog W 0 (fun _ => true) true n1 38 (([c0,c1,c2,c3,c4,c5,c6,c7,c8,c9].drop 4).take (Tryz.prog.cellsOf 38)) = some y4 := hg 4 _ rfl;rw [eI] at g4
 replace g4 : DataW.trod enc Tryz.prog W 0 (fun _ => true) true n1 38 [c4] = some y4 := g4
 have g5 : DataW.trod enc Tryz.prog W 0 (fun _ => true) true n1 39 (([c0,c1,c2,c3,c4,c5,c6,c7,c8,c9].drop 5).take (Tryz.prog.cellsOf 39)) = some y5 := hg 5 _ rfl;rw [eS] at g5
 replace g5 : DataW.trod enc Tryz.prog W 0 (fun _ => true) true n1 39 [c5] = some y5 := g5
 have g6 : DataW.trod enc Tryz.prog W 0 (fun _ => true) true n1 31 (([c0,c1,c2,c3,c4,c5,c6,c7,c8,c9].drop 6).take (Tryz.prog.cellsOf 31)) = some y6 := hg 6 _ rfl;rw [eV] at g6
 replace g6 : DataW.trod enc Tryz.prog W 0 (fun _ => true) true n1 31 [c6] = some y6 := g6
 have g7 : DataW.trod enc Tryz.prog W 0 (fun _ => true) true n1 31 (([c0,c1,c2,c3,c4,c5,c6,c7,c8,c9].drop 7).take (Tryz.prog.cellsOf 31)) = some y7 := hg 7 _ rfl;rw [eV] at g7
 replace g7 : DataW.trod enc Tryz.prog W 0 (fun _ => true) true n1 31 [c7] = some y7 := g7
 have g8 : DataW.trod enc Tryz.prog W 0 (fun _ => true) true n1 3 (([c0,c1,c2,c3,c4,c5,c6,c7,c8,c9].drop 8).take (Tryz.prog.cellsOf 3)) = some y8 := hg 8 _ rfl;rw [e3] at g8
 replace g8 : DataW.trod enc Tryz.prog W 0 (fun _ => true) true n1 3 [c8] = some y8 := g8
 have g9 : DataW.trod enc Tryz.prog W 0 (fun _ => true) true n1 3 (([c0,c1,c2,c3,c4,c5,c6,c7,c8,c9].drop 9).take (Tryz.prog.cellsOf 3)) = some y9 := hg 9 _ rfl;rw [e3] at g9
 replace g9 : DataW.trod enc Tryz.prog W 0 (fun _ => true) true n1 3 [c9] = some y9 := g9
 obtain ⟨x0,a0,o0,q0⟩ := Opn.int Tryz.underlying3 _ _ y0.1 y0.2 (by rw [e3];rfl) g0;obtain ⟨x1,a1,o1,q1⟩ := Opn.str Tryz.underlying9 _ _ y1.1 y1.2 (by rw [e9];rfl) g1;obtain ⟨x2,a2,o2,q2⟩ := Opn.int Tryz.underlying3 _ _ y2.1 y2.2 (by rw [e3];rfl) g2;obtain ⟨x3,a3,o3,q3⟩ := Opn.sl 0 Tryz.underlying38 (sz := 1) (by kernel_rfl) (by decide) (Opn.int Tryz.underlying3) _ _ y3.1 y3.2 (by rw [eI];rfl) g3;obtain ⟨x4,a4,o4,q4⟩ := Opn.sl 0 Tryz.underlying38 (sz := 1) (by kernel_rfl) (by decide) (Opn.int Tryz.underlying3) _ _ y4.1 y4.2 (by rw [eI];rfl) g4;obtain ⟨x5,a5,o5,q5⟩ := Opn.sl ByteArray.empty Tryz.underlying39 (sz := 1) (by kernel_rfl) (by decide) (Opn.str Tryz.underlying9) _ _ y5.1 y5.2 (by rw [eS];rfl) g5;obtain ⟨x6,a6,o6,q6⟩ := Opn.sl vl0 Tryz.underlying31 (sz := 7) (by kernel_rfl) (by decide) Opn.val _ _ y6.1 y6.2 (by rw [eV];rfl) g6;obtain ⟨x7,a7,o7,q7⟩ := Opn.sl vl0 Tryz.underlying31 (sz := 7) (by kernel_rfl) (by decide) Opn.val _ _ y7.1 y7.2 (by rw [eV];rfl) g7;obtain ⟨x8,a8,o8,q8⟩ := Opn.int Tryz.underlying3 _ _ y8.1 y8.2 (by rw [e3];rfl) g8;obtain ⟨x9,a9,o9,q9⟩ := Opn.int Tryz.underlying3 _ _ y9.1 y9.2 (by rw [e3];rfl) g9;simp only [Prod.mk.injEq] at hx;refine ⟨⟨x0,x1,x2,x3,x4,x5,x6,x7,x8,x9⟩,⟨jI a0,jI a1,jI a2,jI a3,jI a4,jI a5,jI a6,jI a7,jI a8,jI a9,trivial⟩,fun c hc => ?_,fun n hn hn2 => ?_⟩
 ·simp only [List.mem_cons,List.not_mem_nil,or_false] at hc;rcases hc with rfl | rfl | rfl | rfl | rfl | rfl | rfl | rfl | rfl | rfl
  ·exact o0 _ (by simp)
  ·exact o1 _ (by simp)
  ·exact o2 _ (by simp)
  ·exact o3 _ (by simp)
  ·exact o4 _ (by simp)
  ·exact o5 _ (by simp)
  ·exact o6 _ (by simp)
  ·exact o7 _ (by simp)
  ·exact o8 _ (by simp)
  ·exact o9 _ (by simp)
 ·rw [hx.1] at hn;have b0 := q0 n (qJ (i := 0) (y := y0) rfl hn);have b1 := q1 n (qJ (i := 1) (y := y1) rfl hn);have b2 := q2 n (qJ (i := 2) (y := y2) rfl hn);have b3 := q3 n (qJ (i := 3) (y := y3) rfl hn);have b4 := q4 n (qJ (i := 4) (y := y4) rfl hn);have b5 := q5 n (qJ (i := 5) (y := y5) rfl hn);have b6 := q6 n (qJ (i := 6) (y := y6) rfl hn);have b7 := q7 n (qJ (i := 7) (y := y7) rfl hn);have b8 := q8 n (qJ (i := 8) (y := y8) rfl hn);have b9 := q9 n (qJ (i := 9) (y := y9) rfl hn)
  exact ⟨b0,b2,b8,b9,by show x1.size ≤ _;omega,by show x3.length ≤ _;omega,by show x4.length ≤ _;omega,by show x5.length ≤ _;omega,by show x6.length ≤ _;omega,by show x7.length ≤ _;omega,
   fun s hs => by have := b5.2 s hs;omega,fun v hv => b6.2 v hv hn2,fun v hv => b7.2 v hv hn2⟩
def hpL (h : List Ob) : List D := [.sl false 10 h obD ob0]
set_option maxRecDepth 100000 in
theorem Opn.heap : Opn enc Tryz.prog W 24 hpL (fun h n => n ≤ 1048576 → HpIn h) := by
 intro fuel cs d ps hl h;have eH : Tryz.prog.cellsOf 24 = 1 := by kernel_rfl
 have eO : Tryz.prog.cellsOf 22 = 1 := by kernel_rfl
 rw [eH] at hl
 match cs,hl with
 | [c0],_ =>
  obtain ⟨xs,n1,_,hx,_,hlen,hg⟩ := DataW.trod_struct Tryz.underlying24 h
  match xs,hlen with
  | [y0],_ =>
   have g0 : DataW.trod enc Tryz.prog W 0 (fun _ => true) true n1 22 (([c0].drop 0).take (Tryz.prog.cellsOf 22)) = some y0 := hg 0 _ rfl;rw [eO] at g0
   replace g0 : DataW.trod enc Tryz.prog W 0 (fun _ => true) true n1 22 [c0] = some y0 := g0
   obtain ⟨x0,a0,o0,q0⟩ := Opn.sl ob0 Tryz.underlying22 (sz := 10) (by kernel_rfl) (by decide) Opn.obj _ _ y0.1 y0.2 (by rw [eO];rfl) g0;simp only [Prod.mk.injEq] at hx;refine ⟨x0,a0,o0,fun n hn hn2 => ?_⟩;rw [hx.1] at hn;have b0 := q0 n (qJ (i := 0) (y := y0) rfl hn);exact ⟨fun o ho => b0.2 o ho hn2,by omega⟩
theorem Opn.agg {P : Program} {α : Type} {f : α → List D} {Q : α → Nat → Prop} {t : TypeId} {fs : Array Field} {base : Nat} (ho : Opn enc P W t f Q) (ht : P.underlying t = some (.struct fs)) {v : Value} {d : DataW H} {ps : List MemPlace}
  (hv : Value.okWide P W .any base t v) (h : DataW.Trod enc P W 0 (fun _ => true) true t v d ps) :
  ∃ x,(D.agg (f x)).pv.p W (sW W) v ∧ ∀ n,Rows.uptoBulk d ≤ n → Q x n := by
 obtain ⟨cs,rfl,hsz⟩ := okWide_struct ht hv;obtain ⟨l⟩ := cs;obtain ⟨fuel,hf⟩ := h;obtain ⟨x,h1,-,h3⟩ := ho fuel l d ps hsz hf;exact ⟨x,⟨l,rfl,h1⟩,h3⟩
end


open Go.ChangeShapes Go.WideShapes Go.ChangeAt Go.RowKit
theorem mK {H : Type} {enc : TypeId × Value → H} {P : Program} (hl : laidOutB P = true) {W W' : World} (hb : Below W.heap.size W W') :
  ∀ (ts : List TypeId) (vs : List Value) (ds : List (DataW H)) (ps : List MemPlace),(∀ t ∈ ts,P.readableRec t = true ∧ t < P.types.size) →
   DataW.TrodAll enc P W 0 (fun _ => true) true ts vs ds ps → DataW.TrodAll enc P W' 0 (fun b => decide (b < W.heap.size)) true ts vs ds ps
 | [],[],[],ps,_,h => h
 | t :: ts,v :: vs,d :: ds,ps,hr,h => by
  obtain ⟨p,q,hp,hq,e⟩ := h;have lt : ∀ x ∈ p,x.block < W.heap.size := by obtain ⟨m,hm⟩ := hp;exact DataW.trod_lt m _ _ _ hm
  have ht := hr t (by simp);exact ⟨p,q,Below.trod hl ht.1 ht.2 hp hb lt,mK hl hb ts vs ds q (fun x hx => hr x (by simp [hx])) hq,e⟩
 | [],[],_ :: _,_,_,h => by simp [DataW.TrodAll] at h
 | [],_ :: _,_,_,_,h => by simp [DataW.TrodAll] at h
 | _ :: _,[],_,_,_,h => by simp [DataW.TrodAll] at h
 | _ :: _,_ :: _,[],_,_,h => by simp [DataW.TrodAll] at h
open Go.ChangeShapes Go.WideShapes Go.ChangeAt Go.RowKit Go.Shelf
theorem Law_own : ownKnob Tryz.prog.godebug = none := by kernel_rfl
theorem accept_same : (Rows.laid_unicode_utf8_acceptRanges : DataW Unit) = Lib.acceptData := by kernel_rfl
theorem first_same : (Rows.laid_unicode_utf8_first : DataW Unit) = Lib.firstData := by kernel_rfl
theorem space_same : (Rows.laid_strings_asciiSpace : DataW Unit) = Lib.tabData .u8 Lib.asciiSpaceTab := by kernel_rfl
theorem Law_glob {W : World} (hL : laidMetH Tryz.prog Rows.compareOrderIsTotalUptoRow.laid W) (hs : W.ShapedOpen Tryz.prog) : Glb W (sW W) := by
 have h3 : Lib.VarReads Tryz.prog W "unicode/utf8.first" Rows.laid_unicode_utf8_first := Lib.laidMet.reads hL (.tail _ (.tail _ (.tail _ (.head _))));have h4 : Lib.VarReads Tryz.prog W "unicode/utf8.acceptRanges" Rows.laid_unicode_utf8_acceptRanges := Lib.laidMet.reads hL (.head _);have h5 : Lib.VarReads Tryz.prog W "strings.asciiSpace" Rows.laid_strings_asciiSpace := Lib.laidMet.reads hL (.tail _ (.tail _ (.head _)));rw [first_same] at h3;rw [accept_same] at h4;rw [space_same] at h5;have hT : Lib.Utf8Tabs 1 2 W := utf8Tabs_of_readsT (U8Types.of196 Tryz.laysValid) ⟨by kernel_rfl,by kernel_rfl,by kernel_rfl,by kernel_rfl,by kernel_rfl,by kernel_rfl,by kernel_rfl⟩ h3 h4;have hS : Lib.TabIs Tryz.prog W "strings.asciiSpace" .u8 Lib.asciiSpaceTab := by
  obtain ⟨g,t,cs,fuel,p,hg,hty,hvar,hd⟩ := h5;obtain rfl := Option.some.inj ((show Tryz.prog.globalNamed "strings.asciiSpace" = some 0 by kernel_rfl).symm.trans hg);obtain rfl := Option.some.inj ((show (Tryz.prog.globals[0]?).map (·.type) = some 205 by kernel_rfl).symm.trans hty);have := Lib.cells_of_tab Tryz.underlying205 Tryz.underlying5 (by kernel_rfl) (by kernel_rfl) hd;unfold Lib.TabIs;rw [hvar,← this]
 have hM := Go.Proofs.cell_of_shapedOpen_int (g := 3) (t := 3) (zero := #[.int .i64 0]) hs (of_decide_eq_true (by kernel_rfl)) (by kernel_rfl) rfl (by kernel_rfl) (by kernel_rfl) Tryz.underlying3;refine ⟨fun b o => W.cell? ⟨b,o,none⟩,⟨hM,fun c hc => hT.1 c hc,fun i hi => hT.2 i hi,fun c hc => ?_⟩,fun b o v hv => ⟨hv,World.block_lt_of_cell? _ _ hv⟩,fun b o h => by cases h⟩;show W.cell? ⟨0,c,none⟩ = _;rw [hS.cell (by kernel_rfl) c (by rw [Lib.asciiSpaceTab_length];exact hc),Lib.asciiSpaceTab_at c hc]
noncomputable def Law_world (os : Os) : World :=
 let N := (World.settled Tryz.prog os).heap.size
 let w0 := World.holding Tryz.prog os ⟨#[.cells (Lib.whiteT.map fun (z : Nat) => Value.int .u16 (z : Int)).toArray 257,.cells #[.slice (some ⟨N,0,none⟩) 7 7,.slice none 0 0,.int .i64 2] 254],#[],[]⟩
 let put (h : Array Obj) (g : Nat) (cs : Array Value) : Array Obj := h.modify g fun
  | .cells _ t frozen => .cells cs t frozen
  | o => o
 let h1 := put w0.heap 0 (Lib.asciiSpaceTab.map fun z => Value.int .u8 z).toArray
 let h2 := put h1 1 (Lib.firstTab.map fun z => Value.int .u8 z).toArray
 let h3 := put h2 2 ((List.range 16).flatMap fun i => [Value.int .u8 (Lib.accLo i),Value.int .u8 (Lib.accHi i)]).toArray
 let h4 := put h3 4 #[.pointer (some ⟨N + 1,0,none⟩)]
 { w0 with heap := h4 }
def Law_arg : Array Value := #[.agg #[.slice none 0 0],.agg #[.int .i64 0,.bool false,.slice none 0 0,.bool false,.slice none 0 0,.string ⟨#[]⟩,.int .i64 0],.agg #[.int .i64 0,.bool false,.slice none 0 0,.bool false,.slice none 0 0,.string ⟨#[]⟩,.int .i64 0]]
theorem Law_met (os : Os) : laidMet Tryz.prog Rows.compareOrderIsTotalUptoRow.laid ((Law_world os).forCall (fun _ _ => 0) ⟨#[],Law_arg,[]⟩).memory :=
 laidMet_of_run' 10 (by kernel_rfl) (by kernel_rfl)
theorem Law_row (os : Os) {H : Type} (enc : TypeId × Value → H) :
  (Rows.OpenSpec.upto Rows.compareOrderIsTotalSpec).preRow enc Tryz.prog Tryz.f4 Rows.compareOrderIsTotalUptoRow.domain false Rows.compareOrderIsTotalUptoRow.laid ((Law_world os).forCall (fun _ _ => 0) ⟨#[],Law_arg,[]⟩).memory Law_arg := by
 have hw : (DataW.whole enc Tryz.prog ((Law_world os).forCall (fun _ _ => 0) ⟨#[],Law_arg,[]⟩).memory Tryz.f4.params.toList Rows.compareOrderIsTotalSpec.vars false Law_arg.toList 8).map (fun x => (x.1,x.2.1)) =
   some ([.agg [.nil],.agg [.lit (.int .i64 0),.agg [.lit (.bool false),.nil],.agg [.lit (.bool false),.nil],.lit (.string []),.lit (.int .i64 0)],.agg [.lit (.int .i64 0),.agg [.lit (.bool false),.nil],.agg [.lit (.bool false),.nil],.lit (.string []),.lit (.int .i64 0)]],[]) := by kernel_rfl
 obtain ⟨⟨x1,x2,x3⟩,hx,hx1⟩ := Option.map_eq_some_iff.1 hw;simp only [Prod.mk.injEq] at hx1;obtain ⟨rfl,rfl⟩ := hx1;exact OpenSpec.preRow_of_cond 8 hx (by kernel_rfl) (fun k hk => by cases hk;kernel_rfl) (by kernel_rfl) (Law_met os)
set_option maxRecDepth 100000 in
set_option maxHeartbeats 2000000 in
theorem Law_lifted (os : Os) (started : os.Started) (H : Type) (enc : TypeId × Value → H) (F : Stop.Interp) :
  ReturnsInHanded {} Tryz.checked os 4 .any ((Rows.OpenSpec.upto Rows.compareOrderIsTotalSpec).preRow enc Tryz.prog Tryz.f4 Rows.compareOrderIsTotalUptoRow.domain false Rows.compareOrderIsTotalUptoRow.laid) (((Rows.OpenSpec.upto Rows.compareOrderIsTotalSpec).at F).post enc Tryz.prog Tryz.f4 false true false false) := by
 refine returnsInHanded_of_row (C := Tryz.checked) (s := Rows.OpenSpec.upto Rows.compareOrderIsTotalSpec) Law_own started (by kernel_rfl) Tryz.func4
  (witness_row_atRef (enc := enc) (C := Tryz.checked) false (Law_world os) Law_arg rfl (by kernel_rfl) (by kernel_rfl) (by kernel_rfl) (Law_row os enc)) ?_
 intro W base args ds gs before hval0 hW _ hk _ hL hS _;have hval : ∀ (j : Nat) t v,Tryz.f4.params[j]? = some t → args[j]? = some v → Value.okWide Tryz.prog W .any base t v := hval0;have hW' := hW;obtain ⟨p,q,hA0,hV,rfl,hfz,hnd⟩ := hW;have hA : DataW.TrodAll enc Tryz.prog W 0 (fun _ => true) true Tryz.f4.params.toList args.toList ds p := hA0;obtain ⟨rfl,rfl⟩ := trodVars_none hV;have hA1 := hA;rw [Tryz.params4] at hA hval;obtain ⟨v0,vs0,d0,ds0,p0,q0,hargs,rfl,rfl,h0,r0⟩ := trodAll_cons hA;obtain ⟨v1,vs1,d1,ds1,p1,q1,rfl,rfl,rfl,h1,r1⟩ := trodAll_cons r0;obtain ⟨v2,vs2,d2,ds2,p2,q2,rfl,rfl,rfl,h2,r2⟩ := trodAll_cons r1;obtain ⟨rfl,rfl,rfl⟩ := trodAll_nil r2;obtain rfl : args = #[v0,v1,v2] := by cases args;simp_all
 have hb : Rows.uptoBulkAll [d0,d1,d2] ≤ 1048576 := by
  have := hk _ rfl;simpa [Rows.uptoSmall] using this
 simp only [Rows.uptoBulkAll] at hb;obtain ⟨x0,a0,i0⟩ := Opn.agg Opn.heap Tryz.underlying24 (hval 0 24 v0 rfl rfl) h0;obtain ⟨x1,a1,i1⟩ := Opn.agg Opn.val Tryz.underlying29 (hval 1 29 v1 rfl rfl) h1;obtain ⟨x2,a2,i2⟩ := Opn.agg Opn.val Tryz.underlying29 (hval 2 29 v2 rfl rfl) h2;have hG := Law_glob hL hS;refine ((Law31_ok x0 x1 x2 (i0 1048576 (by omega) (Nat.le_refl _)) (i1 1048576 (by omega) (Nat.le_refl _)) (i2 1048576 (by omega) (Nat.le_refl _))).2 W (sW W) [v0,v1,v2] (fun _ _ h => h) hG ⟨a0,a1,a2,trivial⟩).mono fun e W' hQ => ?_;obtain ⟨s',x,he,hp,hst⟩ := hQ;have hp : x = .bool true := hp;subst hp;subst he;have bel := hst.below;have hl : laidOutB Tryz.prog = true := by kernel_rfl
 have hread : Tryz.f4.params.toList.all (fun t => Tryz.prog.readableRec t && decide (t < Tryz.prog.types.size)) = true := by kernel_rfl
 refine ⟨_,rfl,[d0,d1,d2],[],_,[],(p0 ++ (p1 ++ (p2 ++ ([])))),[],hW',?_,?_,?_,bel.frame _,fun h => by cases h⟩
 ·exact trodAll_mk1 (shut_bool Tryz.underlying4 _)
 ·exact mK hl bel _ _ _ _ (fun t ht => by have := List.all_eq_true.1 hread t ht;simpa using this) hA1
 ·rfl
theorem Law_fi : (Rows.compareOrderIsTotalUptoRow.inPlace == Tryz.pinned.checked.prog.inPlace 4) = true := by kernel_rfl
theorem Law_fu : (Rows.compareOrderIsTotalUptoRow.unfollowed == Tryz.pinned.checked.prog.unfollowed 4) = true := by kernel_rfl
theorem Law_fr : (Rows.compareOrderIsTotalUptoRow.recurses == Tryz.pinned.checked.prog.recurses 4) = true := by kernel_rfl
theorem Law_fn : (Rows.compareOrderIsTotalUptoRow.named == Tryz.pinned.checked.prog.varsNamed 4) = true := by kernel_rfl
theorem Law_facts : joinedFacts Tryz.pinned.checked.prog 4 Tryz.f4 (Rows.OpenSpec.upto Rows.compareOrderIsTotalSpec).bare Rows.compareOrderIsTotalUptoRow = true := by
 unfold joinedFacts;rw [Law_fi,Law_fu,Law_fr,Law_fn];kernel_rfl
theorem Law_inst : Tryz.f4.isInstance Tryz.pinned.checked.prog Rows.compareOrderIsTotalUptoRow.origin Rows.compareOrderIsTotalUptoRow.targs := of_decide_eq_true (by kernel_rfl)
theorem Law_wrap : Tryz.f4.isWrapper Tryz.pinned.checked.prog Rows.compareOrderIsTotalUptoRow.wrapper Rows.compareOrderIsTotalUptoRow.mainSum := by unfold Func.isWrapper;first | (rw [if_pos (by decide +kernel)];kernel_rfl) | (rw [if_neg (by decide +kernel)];exact ⟨rfl,rfl⟩)
theorem Law_named : Tryz.pinned.checked.prog.funcNamed Rows.compareOrderIsTotalUptoRow.func = some 4 := by kernel_rfl
theorem Law_looks : true = Tryz.pinned.checked.prog.looks [] := by kernel_rfl
theorem Law_goes : false = Rows.compareOrderIsTotalUptoRow.goesBy Tryz.pinned.checked.prog := by kernel_rfl
theorem Law_wf : Rows.compareOrderIsTotalUptoRow.wfByText (Rows.OpenSpec.upto Rows.compareOrderIsTotalSpec) = true := by kernel_rfl
theorem Law_main : Tryz.pinned.checked.prog.mainIs = some (Rows.compareOrderIsTotalUptoCard.stood.harness.1,Rows.compareOrderIsTotalUptoCard.stood.harness.2.toList) := by kernel_rfl
theorem Law_said : Rows.CompareOrderIsTotalUptoSaid :=
 OpenClaim.holds_of_cond 4 Tryz.f4 rfl rfl rfl rfl rfl rfl rfl ⟨rfl,rfl,rfl,rfl,rfl⟩ rfl rfl rfl rfl rfl Law_named Tryz.func4 Law_facts Law_inst Law_wrap
  (fun os started H enc _ F => by rw [OpenClaim.pre_eq_preRow];exact Law_lifted os started H enc F)
theorem Law_plain (f : FuncId) (fn : Func) (hf : Tryz.pinned.checked.prog.funcNamed "brindlewood/brindlewoodlaw7.CompareOrderIsTotal" = some f) (hfn : Tryz.pinned.checked.prog.funcs[f]? = some fn) :
  true = Tryz.pinned.checked.prog.looks [] ∧ ∀ (j : Nat) t,fn.params[j]? = some t → Tryz.pinned.checked.prog.wantsStandIn t = false := by
 obtain rfl : f = 4 := Option.some.inj (Law_named.symm.trans hf) |>.symm;obtain rfl : fn = Tryz.f4 := (Option.some.inj (Tryz.func4.symm.trans hfn)).symm;refine ⟨Law_looks,fun j t ht => ?_⟩;rw [Tryz.params4] at ht;have hm := Array.mem_of_getElem? ht;simp only [List.mem_toArray,List.mem_cons,List.not_mem_nil,or_false] at hm;have wh : Tryz.prog.wantsStandIn 24 = false := by kernel_rfl
 have wv : Tryz.prog.wantsStandIn 29 = false := by kernel_rfl
 rcases hm with rfl | rfl | rfl
 ·exact wh
 ·exact wv
 ·exact wv
theorem Law_holds : Rows.CompareOrderIsTotalUptoCardSaid :=
 Claim7.holds_tied_plain_at .later [] _ _ _ _ Law_said (fun _ h => by cases h) Law_wf (fun _ h => by cases h) compareOrderIsTotalUpto_row_tie rfl ⟨rfl,rfl⟩ Law_main rfl Law_plain Law_goes
end Go.Proofs.YtinegkcbkefeiaaGreatDoor
