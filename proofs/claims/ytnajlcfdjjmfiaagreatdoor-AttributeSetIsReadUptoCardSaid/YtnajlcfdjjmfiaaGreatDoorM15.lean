/- Part 15 of the proof. -/
import Derived.Test.YtnajlcfdjjmfiaaGreatDoorM13
import Derived.Test.YtnajlcfdjjmfiaaGreatDoorM14
import Derived.Deep.RegionLaw
import Derived.Deep.AppendLies
namespace Go.Proofs.YtnajlcfdjjmfiaaGreatDoor
open Go.RowKit
theorem qM {w : World} {N : Nat} {cs : Array Value} {t : TypeId} (h : w.heap[N]? = some (.cells cs t (0,0))) (i : Nat) : w.cell? ⟨N,i,none⟩ = cs[i]? := by
 simp [World.cell?,h]
theorem kY0 {w : World} {N : Nat} {o : Obj} (h : w.heap[N]? = some o) : N < w.heap.size := by
 rcases Nat.lt_or_ge N w.heap.size with h' | h'
 ·exact h'
 ·rw [Array.getElem?_eq_none h'] at h;cases h
def Bxs (l : List (Nat × Obj)) (w W : World) : Prop := Below w.heap.size w W ∧ ∀ x ∈ l,W.heap[x.1]? = some x.2
theorem Bxs.below {l : List (Nat × Obj)} {w W W' : World} (h : Bxs l w W) (hb : Below W.heap.size W W') : Bxs l w W' :=
 ⟨qH h.1 hb,fun x hx => (hb.block _ (kY0 (h.2 x hx))).trans (h.2 x hx)⟩
abbrev RowU (w : World) (v : Value) (l : List Nat) : Prop := RowOf (fun d : Nat => Value.int .u32 (d : Int)) w v l
def Cs (l : List (Addr × Value)) (W : World) : Prop := ∀ x ∈ l,W.cell? x.1 = some x.2
theorem Cs.alloc {l : List (Addr × Value)} {W : World} (h : Cs l W) (o : Obj) : Cs l (W.alloc o) := fun x hx => Lib.cell?_alloc_some _ (h x hx)
set_option maxRecDepth 100000 in
set_option maxHeartbeats 2000000 in
theorem dM0 (lv : Value) (l : List Nat) (w : World) (hv : RowU w lv l) (hg : Lg l) (hn : l.length ≤ 100000) :
  Calls Tryz.prog 117 #[lv] w fun e w' => ∃ v',e = .returned v' ∧ NatAt w' v' (VL l) ∧ Below w.heap.size w w' := by
 have HV := Lib.hid hv;have HG := Lib.hid hg;obtain ⟨la,lc,rfl,hal,ham,-⟩ := hv;obtain ⟨i0,hii,hz0,hz1,hz2⟩ := info_parts qF0;clear hg
 go_enter Tryz.func117,Tryz.ntmps117
 go_wp2
 go_loopg [3,4] l.length (fun q s3 s4 wr => ∃ (k : Nat) (o : List Nat),s4 = .int .i64 k ∧ k ≤ l.length ∧ l.length - k ≤ q ∧ wr.ownsRow w.heap.size 3 1 s3 o.length (o.map wJ) ∧ Hid (o.length = 2 * k) ∧ Hid (V o = VL (l.take k)) ∧ Hid (Dg o) ∧ Below w.heap.size w wr)
 case atStart => exact ⟨0,[],rfl,by omega,by omega,World.ownsRow_nil _ _ _ _,rfl,rfl,Dg.nil,Below.refl _ _⟩
 case round =>
  obtain ⟨k,o,rfl,hk,hq,hown,hol,hV,hD,hb⟩ := hrel;by_cases hA : k < l.length
  ·have i1' : ((k : Int) < (l.length : Int)) := by omega
   obtain ⟨a',c',he,_,_,hc⟩ := HV.out.below hb;simp only [Value.slice.injEq,true_and] at he;obtain ⟨rfl,rfl⟩ := he;obtain ⟨b1,o1,rfl,z1⟩ := hc k hA;have hp : l[k] < 4294967296 := HG.out _ (List.getElem_mem hA);have HS := Lib.hid (of_step hV.out hol.out hA);have HD2 := Lib.hid (of_Dg hD.out hp);have hol2 : o.length ≤ 200000 := by rw [hol.out];omega
   clear hc hV;generalize l[k] = p at *;have E1 := Lib.hid (show IntKind.i64.wrap (Int.tmod (p : Int) 65536) = ((p % 65536 : Nat) : Int) by rw [show Int.tmod (p : Int) 65536 = ((p % 65536 : Nat) : Int) from uZ0 p 65536,IntKind.wrap_i64];omega);have E2 := Lib.hid (show IntKind.i64.wrap (Int.tdiv (p : Int) 65536) = ((p / 65536 : Nat) : Int) by rw [show Int.tdiv (p : Int) 65536 = ((p / 65536 : Nat) : Int) from vD0 p 65536,IntKind.wrap_i64];omega);have E3 := Lib.hid (show (p : Int) % 65536 = ((p % 65536 : Nat) : Int) from rfl);have E4 := Lib.hid (show IntKind.i64.wrap (IntKind.u32.wrap ((p : Int) / 65536)) = ((p / 65536 : Nat) : Int) by rw [show (p : Int) / 65536 = ((p / 65536 : Nat) : Int) from rfl,IntKind.wrap_u32,IntKind.wrap_i64];omega);have hb1 : b1 < w.heap.size := by
    obtain ⟨a',c',he,_,_,hc⟩ := HV.out;simp only [Value.slice.injEq,true_and] at he;obtain ⟨rfl,rfl⟩ := he;obtain ⟨b',o',e,h1⟩ := hc k hA;simp only [Option.some.injEq,Addr.mk.injEq,and_true] at e;obtain ⟨rfl,rfl⟩ := e;exact World.block_lt_of_cell? _ _ h1
   have hS0 : Cs [(⟨b1,o1 + k,none⟩,.int .u32 (p : Int))] wr.drew := by
    intro x hx;rw [List.mem_singleton.1 hx];exact z1
   have hown0 := own_drew hown;have hbd := hb.drew;obtain ⟨sa,sc,rfl⟩ := own_isSlice hown
   go_wp2
   refine wp_region_noPanic ?_;refine dF (S := fun _ W => Cs [(⟨b1,o1 + k,none⟩,.int .u32 (p : Int))] W) (by kernel_rfl) ?_;refine yZ (T := fun _ => True) (i := 0) (v := ?vvo0) rfl (by kernel_rfl) (by kernel_rfl) (by kernel_rfl) (fun _ _ _ h => h) (fun _ _ => Iff.rfl) (fun _ _ _ _ _ => trivial) (Closed.of_B (by kernel_rfl)) (Or.inl ⟨by kernel_rfl,?hyo0⟩) hS0 ?resto0
   case hyo0 => (intro w _;go_simp;with_reducible rfl)
   go_simp
   refine yZ (T := fun _ => True) (i := 1) (v := ?vvo1) rfl (by kernel_rfl) (by kernel_rfl) (by kernel_rfl) (fun _ _ _ h => h) (fun _ _ => Iff.rfl) (fun _ _ _ _ _ => trivial) (Closed.of_B (by kernel_rfl)) (Or.inl ⟨by kernel_rfl,?hyo1⟩) hS0 ?resto1
   case hyo1 => (intro w _;go_simp;with_reducible rfl)
   go_simp
   refine yZ (T := fun _ => True) (i := 2) (v := ?vvo2) rfl (by kernel_rfl) (by kernel_rfl) (by kernel_rfl) (fun _ _ _ h => h) (fun _ _ => Iff.rfl) (fun _ _ _ _ _ => trivial) (Closed.of_B (by kernel_rfl)) (Or.inl ⟨by kernel_rfl,?hyo2⟩) hS0 ?resto2
   case hyo2 => (intro w _;go_simp;with_reducible rfl)
   go_simp
   refine yZ (T := fun _ => True) (i := 3) (v := ?vvo3) rfl (by kernel_rfl) (by kernel_rfl) (by kernel_rfl) (fun _ _ _ h => h) (fun _ _ => Iff.rfl) (fun _ _ _ _ _ => trivial) (Closed.of_B (by kernel_rfl)) (Or.inl ⟨by kernel_rfl,?hyo3⟩) hS0 ?resto3
   case hyo3 => (intro w _;go_simp;with_reducible rfl)
   go_simp
   refine yZ (T := fun W => Cs [(⟨b1,o1 + k,none⟩,.int .u32 (p : Int))] W) (i := 4) (v := ?vvo4) rfl (by kernel_rfl) (by kernel_rfl) (by kernel_rfl) (fun _ _ _ h => h) (fun _ _ => Iff.rfl) (fun _ _ _ _ h => h) (Closed.of_B (by kernel_rfl)) (Or.inl ⟨by kernel_rfl,?hyo4⟩) hS0 ?resto4
   case hyo4 => (intro W hW;simp only [Cs,List.forall_mem_cons] at hW;obtain ⟨m0,-⟩ := hW;go_simp;with_reducible rfl)
   go_simp
   refine yZ (T := fun _ => True) (i := 5) (v := ?vvo5) rfl (by kernel_rfl) (by kernel_rfl) (by kernel_rfl) (fun _ _ _ h => h) (fun _ _ => Iff.rfl) (fun _ _ _ _ _ => trivial) (Closed.of_B (by kernel_rfl)) (Or.inl ⟨by kernel_rfl,?hyo5⟩) hS0 ?resto5
   case hyo5 => (intro w _;go_simp;with_reducible rfl)
   go_simp
   refine yZ (T := fun _ => True) (i := 6) (v := ?vvo6) rfl (by kernel_rfl) (by kernel_rfl) (by kernel_rfl) (fun _ _ _ h => h) (fun _ _ => Iff.rfl) (fun _ _ _ _ _ => trivial) (Closed.of_B (by kernel_rfl)) (Or.inl ⟨by kernel_rfl,?hyo6⟩) hS0 ?resto6
   case hyo6 => (intro w _;go_simp;with_reducible rfl)
   go_simp
   refine yZ (T := fun _ => True) (i := 7) (v := ?vvo7) rfl (by kernel_rfl) (by kernel_rfl) (by kernel_rfl) (fun _ _ _ h => h) (fun _ _ => Iff.rfl) (fun _ _ _ _ _ => trivial) (Closed.of_B (by kernel_rfl)) (Or.inl ⟨by kernel_rfl,?hyo7⟩) hS0 ?resto7
   case hyo7 => (intro w _;go_simp;with_reducible rfl)
   go_simp
   refine yZ (T := fun _ => True) (i := 8) (v := ?vvo8) rfl (by kernel_rfl) (by kernel_rfl) (by kernel_rfl) (fun _ _ _ h => h) (fun _ _ => Iff.rfl) (fun _ _ _ _ _ => trivial) (Closed.of_B (by kernel_rfl)) (Or.inl ⟨by kernel_rfl,?hyo8⟩) hS0 ?resto8
   case hyo8 => (intro w _;go_simp;with_reducible rfl)
   go_simp
   refine yZ (T := fun _ => True) (i := 9) (v := ?vvo9) rfl (by kernel_rfl) (by kernel_rfl) (by kernel_rfl) (fun _ _ _ h => h) (fun _ _ => Iff.rfl) (fun _ _ _ _ _ => trivial) (Closed.of_B (by kernel_rfl)) (Or.inl ⟨by kernel_rfl,?hyo9⟩) hS0 ?resto9
   case hyo9 => (intro w _;go_simp;with_reducible rfl)
   go_simp
   refine yZ (T := fun W => Cs [(⟨b1,o1 + k,none⟩,.int .u32 (p : Int))] W) (i := 10) (v := ?vvo10) rfl (by kernel_rfl) (by kernel_rfl) (by kernel_rfl) (fun _ _ _ h => h) (fun _ _ => Iff.rfl) (fun _ _ _ _ h => h) (Closed.of_B (by kernel_rfl)) (Or.inl ⟨by kernel_rfl,?hyo10⟩) hS0 ?resto10
   case hyo10 => (intro W hW;simp only [Cs,List.forall_mem_cons] at hW;obtain ⟨m0,-⟩ := hW;go_simp;with_reducible rfl)
   go_simp
   refine yZ (T := fun _ => True) (i := 11) (v := ?vvo11) rfl (by kernel_rfl) (by kernel_rfl) (by kernel_rfl) (fun _ _ _ h => h) (fun _ _ => Iff.rfl) (fun _ _ _ _ _ => trivial) (Closed.of_B (by kernel_rfl)) (Or.inl ⟨by kernel_rfl,?hyo11⟩) hS0 ?resto11
   case hyo11 => (intro w _;go_simp;with_reducible rfl)
   go_simp
   refine yZ (T := fun _ => True) (i := 12) (v := ?vvo12) rfl (by kernel_rfl) (by kernel_rfl) (by kernel_rfl) (fun _ _ _ h => h) (fun _ _ => Iff.rfl) (fun _ _ _ _ _ => trivial) (Closed.of_B (by kernel_rfl)) (Or.inl ⟨by kernel_rfl,?hyo12⟩) hS0 ?resto12
   case hyo12 => (intro w _;go_simp;with_reducible rfl)
   go_simp
   simp only [E1.out,E2.out];refine xJ (rs := [13]) (by kernel_rfl) (by simp) ?_;refine AllL.cons rfl (by kernel_rfl) (fun K hK => ?_) AllL.nil
   go_simp
   try simp only [E3.out]
   try simp only [E4.out]
   refine hK _ _ ⟨hS0.alloc _,?_⟩;clear hK K;refine xJ (rs := [14]) (by kernel_rfl) (by simp) ?_;refine AllL.cons rfl (by kernel_rfl) (fun K hK => ?_) AllL.nil
   refine wp_append_lies _ _ _ _ (by rfl) w.heap.size 3 i0 _ 1 8 Tryz.underlying139 hii hz0 hz1 hz2 rfl (by omega) (.slice sa o.length sc) o.length (o.map wJ) (by kernel_rfl) (hown0.alloc _) ⟨wr.heap.size,0,none⟩ 2 2 [.int .i64 ((p % 65536 : Nat) : Int),.int .i64 ((p / 65536 : Nat) : Int)] (by kernel_rfl) (by rfl)
    (World.news_of_block (cs := #[.int .i64 ((p % 65536 : Nat) : Int),.int .i64 ((p / 65536 : Nat) : Int)]) (t := 3) (fr := (0,0)) (show (wr.alloc (.cells #[.int .i64 ((p % 65536 : Nat) : Int),.int .i64 ((p / 65536 : Nat) : Int)] 3)).drew.heap[wr.heap.size]? = _ from zH0 wr _)) (by simp [Value.oneCell']) (by omega) (by rw [qS];omega) (by omega) (by have := hb.size;simp;omega) (wr.heap.size + 1) (by simp) ?_
   intro g cap w7 hown7 hgr hat _;have hne : ∀ q,(Value.slice sa o.length sc).ownBlock = some q → w.heap.size ≤ q := fun q hq => (hown0.lt q hq).1;have hS7 : Cs [(⟨b1,o1 + k,none⟩,.int .u32 (p : Int))] w7 := by
    intro x hx;have h1 := hS0.alloc (.cells #[.int .i64 ((p % 65536 : Nat) : Int),.int .i64 ((p / 65536 : Nat) : Int)] 3) x hx;rw [List.mem_singleton.1 hx] at h1 ⊢;exact hgr.cell h1 (fun e => by have := hne b1 e.symm;omega)
   refine hK _ _ ⟨hS7,?_⟩;clear hK K;have hb7 : Below w.heap.size w w7 := (hbd.alloc hb.size _).grown hgr (by have := hb.size;simp;omega) hne;have hown8 : w7.ownsRow w.heap.size 3 1 (.slice (some ⟨g,0,none⟩) (o.length + 2) cap) (o ++ [p % 65536,p / 65536]).length ((o ++ [p % 65536,p / 65536]).map wJ) := kR hown7 (by simp) (by simp [wJ]);clear hS0 hown7 hgr hat hown0 hown hbd hne;refine xJ (rs := [15]) (by kernel_rfl) (by simp) ?_;refine AllL.cons rfl (by kernel_rfl) (fun K hK => ?_) AllL.nil
   go_simp
   refine hK _ _ ⟨hS7,?_⟩;clear hK K;refine wpAnyL_done (by kernel_rfl) ?_ _;refine NoPanic.normal ?_
   go_wp2
   go_roundg (l.length - (k + 1))
   case measure => omega
   case rel => exact ⟨k + 1,_,by go_num,by omega,Nat.le_refl _,hown8,by unfold Hid;simp [hol.out];omega,HS,HD2,hb7⟩
  ·have i1' : ¬ ((k : Int) < (l.length : Int)) := by omega
   have hT := gD u3 o wr (wB hown) hD.out;rw [hV.out,List.take_of_length_le (by omega)] at hT;have HT := Lib.hid hT;clear hT hV
   go_wp2_with (go_at_call 132;refine HT.out.mono ?_;rintro e w3 ⟨v',rfl,hN',rfl⟩)
   go_ret
   exact ⟨_,rfl,hN',hb⟩
def vQ (b : Bool) (l : List Nat) : Bool := decide (l.length ≤ 128) && ((decide (l.length = 0) && !b) || (decide (0 < l.length) && decide (l.getD (l.length - 1) 0 ≠ 0)))
set_option maxHeartbeats 2000000 in
theorem jJ0 (b1 : Bool) (v1 : Value) (l1 : List Nat) (w : World) (h1 : RowU w v1 l1) (n1 : l1.length ≤ 2000000) :
  Calls Tryz.prog 94 #[.agg #[.bool b1,v1]] w fun e w' => e = .returned (.bool (vQ b1 l1)) ∧ Below w.heap.size w w' := by
 obtain ⟨a1,c1,rfl,hlc,hcm,hc⟩ := h1;have hal := qT0 w (.cells #[.bool b1,.slice a1 l1.length c1] 27);have hx := zH0 w (.cells #[.bool b1,.slice a1 l1.length c1] 27);by_cases hl : l1.length ≤ 128
 ·by_cases h0 : l1.length = 0
  ·have HF := Lib.hid (show vQ b1 l1 = !b1 by unfold vQ;simp [h0]);have hl0 : (l1.length : Int) = 0 := by omega
   clear hc;generalize l1.length = m1 at *;subst h0
   go_enter Tryz.func94,Tryz.ntmps94
   go_upto_region 1 with fail
   generalize (w.alloc (.cells #[.bool b1,.slice a1 0 c1] 27)) = w1 at *;have d0 := qM hx 0;have d1 := qM hx 1;simp only [List.getElem?_toArray,List.getElem?_cons_zero,List.getElem?_cons_succ] at d0 d1;clear hx hl0
   cases b1
   ·go_wp2;go_ret;exact ⟨kJ HF.out.symm,hal⟩
   ·go_wp2;go_ret;exact ⟨kJ HF.out.symm,hal⟩
  ·have hpos : 0 < l1.length := by omega
   have hposI : (0 : Int) < (l1.length : Int) := by omega
   have hne : ((l1.length : Int) == 0) = false := by rw [beq_eq_false_iff_ne];omega
   obtain ⟨b,off,rfl,hcell⟩ := hc (l1.length - 1) (by omega);have hcell1 := hal.cell (World.block_lt_of_cell? _ _ hcell);have hcell2 := hcell1.trans hcell;have HF := Lib.hid (show vQ b1 l1 = decide (l1[l1.length - 1] ≠ 0) by
    unfold vQ;have e : l1.getD (l1.length - 1) 0 = l1[l1.length - 1] := pD (by omega);rw [e];simp [hl,h0,hpos])
   have hw : IntKind.i64.wrap ((l1.length : Int) - 1) = (l1.length : Int) - 1 := IntWalk.i64_in _ (by omega);have hs0 : (0 : Int) ≤ (l1.length : Int) - 1 := by omega
   have hs1 : (1 : Int) ≤ (l1.length : Int) := by omega
   have hs2 : ((l1.length : Int) - 1).toNat = l1.length - 1 := by omega
   generalize l1[l1.length - 1] = y at *;clear hc hcell hcell1;generalize l1.length = m1 at *
   go_enter Tryz.func94,Tryz.ntmps94
   go_upto_region 1 with fail
   generalize (w.alloc (.cells #[.bool b1,.slice (some ⟨b,off,none⟩) m1 c1] 27)) = w1 at *;have d0 := qM hx 0;have d1 := qM hx 1;simp only [List.getElem?_toArray,List.getElem?_cons_zero,List.getElem?_cons_succ] at d0 d1;clear hx;by_cases hy : y = 0
   ·have hF : decide (y ≠ 0) = false := by simpa using hy
    rw [hF] at HF;subst hy
    go_wp2;go_ret;exact ⟨kJ HF.out.symm,hal⟩
   ·have hF : decide (y ≠ 0) = true := by simpa using hy
    have hy1 : ((y : Int) != 0) = true := by simp;omega
    rw [hF] at HF;clear hF
    go_wp2;go_ret;exact ⟨kJ HF.out.symm,hal⟩
 ·have HF := Lib.hid (show vQ b1 l1 = false by unfold vQ;simp [hl]);have hlI : ¬ ((l1.length : Int) ≤ 128) := by omega
  clear hc;generalize l1.length = m1 at *
  go_enter Tryz.func94,Tryz.ntmps94
  go_upto_region 1 with fail
  generalize (w.alloc (.cells #[.bool b1,.slice a1 m1 c1] 27)) = w1 at *;have d0 := qM hx 0;have d1 := qM hx 1;simp only [List.getElem?_toArray,List.getElem?_cons_zero,List.getElem?_cons_succ] at d0 d1;clear hx
  go_wp2;go_ret;exact ⟨kJ HF.out.symm,hal⟩
theorem bA {b : Bool} {l : List Nat} (h : vQ b l = true) : l.length ≤ 128 := by
 unfold vQ at h;rw [Bool.and_eq_true,decide_eq_true_eq] at h;exact h.1
theorem VL_dig {l : List Nat} (h : Lg l) : (dig (VL l)).length ≤ 2 * l.length := by
 refine xB ?_;have := L_lt h;rw [show 2 * l.length = l.length + l.length by omega,Nat.pow_add,← Nat.mul_pow];exact this
theorem qE0 {b : Bool} {l : List Nat} (hg : Lg l) (h : vQ b l = true) : (dig (VL l)).length ≤ 256 := by
 have h1 := VL_dig hg;have h2 := bA h;omega
def ratS (b1 : Bool) (l1 : List Nat) (b2 : Bool) (l2 : List Nat) : Bool := ((vQ b1 l1 && vQ b2 l2) && (!b2 && decide (0 < l2.length))) && (cmpN (Nat.gcd (VL l1) (VL l2)) 1 == 0)
def RatP (b0 : Bool) (w : World) (e : Ending) (w' : World) : Prop := ∃ b,e = .returned (.bool b) ∧ b = b0 ∧ Below w.heap.size w w'
set_option maxRecDepth 100000 in
set_option maxHeartbeats 2000000 in
theorem RatioOk_any (b1 b2 : Bool) (v1 v2 : Value) (l1 l2 : List Nat) (w : World) (h1 : RowU w v1 l1) (h2 : RowU w v2 l2) (g1 : Lg l1) (g2 : Lg l2) (n1 : l1.length ≤ 2000000) (n2 : l2.length ≤ 2000000) :
  Calls Tryz.prog 95 #[.agg #[.bool b1,v1,.bool b2,v2]] w fun e w' => RatP (ratS b1 l1 b2 l2) w e w' := by
 have hI1 := Lib.hid (fun W (h : Below w.heap.size w W) => jJ0 b1 v1 l1 W (h1.below h) n1);have hI2 := Lib.hid (fun W (h : Below w.heap.size w W) => jJ0 b2 v2 l2 W (h2.below h) n2);have HO1 := Lib.hid (fun (hn : l1.length ≤ 100000) W (h : Below w.heap.size w W) => dM0 v1 l1 W (h1.below h) g1 hn);have HO2 := Lib.hid (fun (hn : l2.length ≤ 100000) W (h : Below w.heap.size w W) => dM0 v2 l2 W (h2.below h) g2 hn);have HG := Lib.hid (fun (k1 : vQ b1 l1 = true) (k2 : vQ b2 l2 = true) u1 u2 W (q1 : NatAt W u1 (VL l1)) (q2 : NatAt W u2 (VL l2)) => Common_any u1 u2 (VL l1) (VL l2) W q1 q2 (Nat.le_trans (qE0 g1 k1) (by omega)) (Nat.le_trans (qE0 g2 k2) (by omega)));have HK1 := Lib.hid (fun (k1 : vQ b1 l1 = true) => Nat.le_trans (bA k1) (show 128 ≤ 100000 by omega));have HK2 := Lib.hid (fun (k1 : vQ b2 l2 = true) => Nat.le_trans (bA k1) (show 128 ≤ 100000 by omega));obtain ⟨a1,c1,rfl,-⟩ := h1;obtain ⟨a2,c2,rfl,-⟩ := h2;clear n1 n2 g1 g2;generalize hm1 : l1.length = m1 at hI1 HO1 ⊢;generalize hm2 : l2.length = m2 at hI2 HO2 ⊢;rw [hm1] at HK1;rw [hm2] at HK2;clear hm1;have hal1 := qT0 w (.cells #[.bool b1,.slice a1 m1 c1,.bool b2,.slice a2 m2 c2] 121);have hal2 := zH0 w (.cells #[.bool b1,.slice a1 m1 c1,.bool b2,.slice a2 m2 c2] 121)
 go_enter Tryz.func95,Tryz.ntmps95
 go_upto_region 1 with fail
 generalize (w.alloc (.cells #[.bool b1,.slice a1 m1 c1,.bool b2,.slice a2 m2 c2] 121)) = w1 at *;have hb1 := hal1;have h1 := hal2;clear hal1 hal2;have d0 := qM h1 0;have d1 := qM h1 1;have d2 := qM h1 2;have d3 := qM h1 3;simp only [List.getElem?_toArray,List.getElem?_cons_zero,List.getElem?_cons_succ] at d0 d1 d2 d3
 cases k1 : vQ b1 l1 with
 | false =>
  rw [k1] at hI1;have K1 := Lib.hid k1;clear k1
  go_wp2_with fail
  refine (hI1.out w1 hb1).mono ?_;rintro e w2 ⟨rfl,hb2⟩
  go_wp2
  go_ret
  exact ⟨false,rfl,(by rw [ratS,K1.out];rfl),qH hb1 hb2⟩
 | true =>
  rw [k1] at hI1;have K1 := Lib.hid k1;clear k1
  go_wp2_with fail
  refine (hI1.out w1 hb1).mono ?_;rintro e w2 ⟨rfl,hb2⟩
  replace h1 := (hb2.block _ (kY0 h1)).trans h1
  clear d0 d1 d2 d3;have d0 := qM h1 0;have d1 := qM h1 1;have d2 := qM h1 2;have d3 := qM h1 3;simp only [List.getElem?_toArray,List.getElem?_cons_zero,List.getElem?_cons_succ] at d0 d1 d2 d3
  cases k2 : vQ b2 l2 with
  | false =>
   rw [k2] at hI2;have K2 := Lib.hid k2;clear k2
   go_wp2_with fail
   refine (hI2.out w2 (qH hb1 hb2)).mono ?_;rintro e w3 ⟨rfl,hb3⟩
   go_wp2
   go_ret
   exact ⟨false,rfl,(by rw [ratS,K1.out,K2.out];rfl),qH hb1 (qH hb2 hb3)⟩
  | true =>
   rw [k2] at hI2;have K2 := Lib.hid k2;clear k2
   go_wp2_with fail
   refine (hI2.out w2 (qH hb1 hb2)).mono ?_;rintro e w3 ⟨rfl,hb3⟩
   replace h1 := (hb3.block _ (kY0 h1)).trans h1
   have hb13 := qH hb1 (qH hb2 hb3);clear d0 d1 d2 d3 hb1 hb2 hb3;have d0 := qM h1 0;have d1 := qM h1 1;have d2 := qM h1 2;have d3 := qM h1 3;simp only [List.getElem?_toArray,List.getElem?_cons_zero,List.getElem?_cons_succ] at d0 d1 d2 d3
   cases b2 with
   | true =>
    go_wp2
    go_ret
    exact ⟨false,rfl,(by simp [ratS]),hb13⟩
   | false =>
    by_cases hz : m2 = 0
    ·have hz' : (m2 : Int) = 0 := by omega
     subst hz
     go_wp2
     go_ret
     exact ⟨false,rfl,(by simp [ratS,hm2]),hb13⟩
    ·have hz' : ((m2 : Int) == 0) = false := by rw [beq_eq_false_iff_ne];omega
     have HF := Lib.hid (show ∀ b,b = (cmpN (Nat.gcd (VL l1) (VL l2)) 1 == 0) → b = ratS b1 l1 false l2 from fun b e => by rw [e,ratS,K1.out,K2.out,hm2,decide_eq_true (show 0 < m2 by omega)];simp);have HO1 := Lib.hid (HO1.out (HK1.out K1.out));have HO2 := Lib.hid (HO2.out (HK2.out K2.out));have HG := Lib.hid (HG.out K1.out K2.out);have hBd : Bxs [(w.heap.size,(.cells #[.bool b1,.slice a1 m1 c1,.bool false,.slice a2 m2 c2] 121))] w w3.drew := ⟨hb13.drew,fun x hx => by
      simp only [List.mem_cons,List.not_mem_nil,or_false] at hx;subst hx;exact h1⟩
     clear hz h1 hb13 hI1 hI2 HK1 HK2 hm2
     go_upto_region 3 with fail
     clear d0 d1 d2 d3 hz';refine wp_region_noPanic ?_;refine dF (S := fun _ W => Bxs [(w.heap.size,(.cells #[.bool b1,.slice a1 m1 c1,.bool false,.slice a2 m2 c2] 121))] w W) (by kernel_rfl) ?_;refine yZ (T := fun _ => True) (i := 0) (v := ?vvr0) rfl (by kernel_rfl) (by kernel_rfl) (by kernel_rfl) (fun _ _ _ h => h) (fun _ _ => Iff.rfl) (fun _ _ _ _ _ => trivial) (Closed.of_B (by kernel_rfl)) (Or.inl ⟨by kernel_rfl,?hyr0⟩) hBd ?restr0
     case hyr0 => (intro w _;go_simp;with_reducible rfl)
     go_simp
     refine yZ (T := fun _ => True) (i := 1) (v := ?vvr1) rfl (by kernel_rfl) (by kernel_rfl) (by kernel_rfl) (fun _ _ _ h => h) (fun _ _ => Iff.rfl) (fun _ _ _ _ _ => trivial) (Closed.of_B (by kernel_rfl)) (Or.inl ⟨by kernel_rfl,?hyr1⟩) hBd ?restr1
     case hyr1 => (intro w _;go_simp;with_reducible rfl)
     go_simp
     refine yZ (T := fun W => Bxs [(w.heap.size,(.cells #[.bool b1,.slice a1 m1 c1,.bool false,.slice a2 m2 c2] 121))] w W) (i := 2) (v := ?vvr2) rfl (by kernel_rfl) (by kernel_rfl) (by kernel_rfl) (fun _ _ _ h => h) (fun _ _ => Iff.rfl) (fun _ _ _ _ h => h) (Closed.of_B (by kernel_rfl)) (Or.inl ⟨by kernel_rfl,?hyr2⟩) hBd ?restr2
     case hyr2 =>
      intro W hW;have hx0 := hW.2 ((w.heap.size,(.cells #[.bool b1,.slice a1 m1 c1,.bool false,.slice a2 m2 c2] 121)) : Nat × Obj) (by simp);have dx0x1 := qM hx0 1;simp only [List.getElem?_toArray,List.getElem?_cons_zero,List.getElem?_cons_succ] at dx0x1;clear hW
      go_simp;with_reducible rfl
     go_simp
     refine yZ (T := fun _ => True) (i := 4) (v := ?vvr4) rfl (by kernel_rfl) (by kernel_rfl) (by kernel_rfl) (fun _ _ _ h => h) (fun _ _ => Iff.rfl) (fun _ _ _ _ _ => trivial) (Closed.of_B (by kernel_rfl)) (Or.inl ⟨by kernel_rfl,?hyr4⟩) hBd ?restr4
     case hyr4 => (intro w _;go_simp;with_reducible rfl)
     go_simp
     refine yZ (T := fun _ => True) (i := 5) (v := ?vvr5) rfl (by kernel_rfl) (by kernel_rfl) (by kernel_rfl) (fun _ _ _ h => h) (fun _ _ => Iff.rfl) (fun _ _ _ _ _ => trivial) (Closed.of_B (by kernel_rfl)) (Or.inl ⟨by kernel_rfl,?hyr5⟩) hBd ?restr5
     case hyr5 => (intro w _;go_simp;with_reducible rfl)
     go_simp
     refine yZ (T := fun W => Bxs [(w.heap.size,(.cells #[.bool b1,.slice a1 m1 c1,.bool false,.slice a2 m2 c2] 121))] w W) (i := 6) (v := ?vvr6) rfl (by kernel_rfl) (by kernel_rfl) (by kernel_rfl) (fun _ _ _ h => h) (fun _ _ => Iff.rfl) (fun _ _ _ _ h => h) (Closed.of_B (by kernel_rfl)) (Or.inl ⟨by kernel_rfl,?hyr6⟩) hBd ?restr6
     case hyr6 =>
      intro W hW;have hx0 := hW.2 ((w.heap.size,(.cells #[.bool b1,.slice a1 m1 c1,.bool false,.slice a2 m2 c2] 121)) : Nat × Obj) (by simp);have dx0x3 := qM hx0 3;simp only [List.getElem?_toArray,List.getElem?_cons_zero,List.getElem?_cons_succ] at dx0x3;clear hW
      go_simp;with_reducible rfl
     go_simp
     refine wpAnyL_rows (R := fun i v _ W => match i with | 3 => NatAt W v (VL l1) | 7 => NatAt W v (VL l2) | 8 => NatAt W v (Nat.gcd (VL l1) (VL l2)) | 9 => NatAt W v 1 | 10 => v = .int .i64 (cmpN (Nat.gcd (VL l1) (VL l2)) 1) | 11 => v = .bool (cmpN (Nat.gcd (VL l1) (VL l2)) 1 == 0) | 12 => v = .bool (cmpN (Nat.gcd (VL l1) (VL l2)) 1 == 0) | _ => True) (I := fun _ _ W => Bxs [(w.heap.size,(.cells #[.bool b1,.slice a1 m1 c1,.bool false,.slice a2 m2 c2] 121))] w W) [((3,some 28,[]),[]),((7,some 32,[]),[]),((8,some 33,[3,7]),[(3,some 28,[]),(7,some 32,[])]),((9,some 34,[]),[]),((10,some 35,[8,9]),[(8,some 33,[3,7]),(9,some 34,[])]),((11,some 36,[10]),[(10,some 35,[8,9])]),((12,some 2,[11]),[(11,some 36,[10])])] (by kernel_rfl) (by decide) (fun _ _ _ h => h) (fun _ => hBd) ?tabr ?finr
     case tabr =>
      refine TabAll.cons rfl (by kernel_rfl) (fun L vs W hsz hcl hn hd hdn hI K hK => ?_) ?_
      ·simp only [wU,Act.put,List.setIfInBounds_toArray,List.set_cons_zero,List.set_cons_succ] at hK ⊢;clear hd hdn
       go_simp
       refine (HO1.out W hI.1).mono ?_;rintro e W3 ⟨v',rfl,hv,hb3⟩;refine hK _ (v') _ (by rfl) (fun i u l hij hL h => ?_) (hv) (hI.below hb3)
       ·match i,hij,hL,h with
        | 3,_,_,h => exact NatAt.below h hb3
        | 7,_,_,h => exact NatAt.below h hb3
        | 8,_,_,h => exact NatAt.below h hb3
        | 9,_,_,h => exact NatAt.below h hb3
        | 10,_,_,h => exact h
        | 11,_,_,h => exact h
        | 12,_,_,h => exact h
        | 0,_,_,_ | 1,_,_,_ | 2,_,_,_ | 4,_,_,_ | 5,_,_,_ | 6,_,_,_ | _ + 13,_,_,_ => trivial
      refine TabAll.cons rfl (by kernel_rfl) (fun L vs W hsz hcl hn hd hdn hI K hK => ?_) ?_
      ·simp only [wU,Act.put,List.setIfInBounds_toArray,List.set_cons_zero,List.set_cons_succ] at hK ⊢;clear hd hdn
       go_simp
       refine (HO2.out W hI.1).mono ?_;rintro e W3 ⟨v',rfl,hv,hb3⟩;refine hK _ (v') _ (by rfl) (fun i u l hij hL h => ?_) (hv) (hI.below hb3)
       ·match i,hij,hL,h with
        | 3,_,_,h => exact NatAt.below h hb3
        | 7,_,_,h => exact NatAt.below h hb3
        | 8,_,_,h => exact NatAt.below h hb3
        | 9,_,_,h => exact NatAt.below h hb3
        | 10,_,_,h => exact h
        | 11,_,_,h => exact h
        | 12,_,_,h => exact h
        | 0,_,_,_ | 1,_,_,_ | 2,_,_,_ | 4,_,_,_ | 5,_,_,_ | 6,_,_,_ | _ + 13,_,_,_ => trivial
      refine TabAll.cons rfl (by kernel_rfl) (fun L vs W hsz hcl hn hd hdn hI K hK => ?_) ?_
      ·simp only [wU,Act.put,List.setIfInBounds_toArray,List.set_cons_zero,List.set_cons_succ] at hK ⊢;have r3 := hd.1;have r7 := hd.2.1;generalize hv3 : vs 3 = v3 at *;have HV3 := Lib.hid hv3;clear hv3;generalize hv7 : vs 7 = v7 at *;have HV7 := Lib.hid hv7;clear hv7;clear hd hdn;have q3 : NatAt W v3 (VL l1) := r3;have q7 : NatAt W v7 (VL l2) := r7;clear r3 r7
       go_simp
       refine (HG.out _ _ W q3 q7).mono ?_;rintro e W3 ⟨v',rfl,hv,hb3⟩;refine hK _ (v') _ (by rfl) (fun i u l hij hL h => ?_) (hv) (hI.below hb3)
       ·match i,hij,hL,h with
        | 3,_,_,h => exact NatAt.below h hb3
        | 7,_,_,h => exact NatAt.below h hb3
        | 8,_,_,h => exact NatAt.below h hb3
        | 9,_,_,h => exact NatAt.below h hb3
        | 10,_,_,h => exact h
        | 11,_,_,h => exact h
        | 12,_,_,h => exact h
        | 0,_,_,_ | 1,_,_,_ | 2,_,_,_ | 4,_,_,_ | 5,_,_,_ | 6,_,_,_ | _ + 13,_,_,_ => trivial
      refine TabAll.cons rfl (by kernel_rfl) (fun L vs W hsz hcl hn hd hdn hI K hK => ?_) ?_
      ·simp only [wU,Act.put,List.setIfInBounds_toArray,List.set_cons_zero,List.set_cons_succ] at hK ⊢;clear hd hdn
       go_simp
       refine (Small_any 1 W (by omega)).mono ?_;rintro e W3 ⟨v',rfl,hv,hb3⟩;refine hK _ (v') _ (by rfl) (fun i u l hij hL h => ?_) (hv) (hI.below hb3)
       ·match i,hij,hL,h with
        | 3,_,_,h => exact NatAt.below h hb3
        | 7,_,_,h => exact NatAt.below h hb3
        | 8,_,_,h => exact NatAt.below h hb3
        | 9,_,_,h => exact NatAt.below h hb3
        | 10,_,_,h => exact h
        | 11,_,_,h => exact h
        | 12,_,_,h => exact h
        | 0,_,_,_ | 1,_,_,_ | 2,_,_,_ | 4,_,_,_ | 5,_,_,_ | 6,_,_,_ | _ + 13,_,_,_ => trivial
      refine TabAll.cons rfl (by kernel_rfl) (fun L vs W hsz hcl hn hd hdn hI K hK => ?_) ?_
      ·simp only [wU,Act.put,List.setIfInBounds_toArray,List.set_cons_zero,List.set_cons_succ] at hK ⊢;have r8 := hd.1;have r9 := hd.2.1;generalize hv8 : vs 8 = v8 at *;have HV8 := Lib.hid hv8;clear hv8;generalize hv9 : vs 9 = v9 at *;have HV9 := Lib.hid hv9;clear hv9;clear hd hdn;have q8 : NatAt W v8 (Nat.gcd (VL l1) (VL l2)) := r8;have q9 : NatAt W v9 1 := r9;clear r8 r9
       go_simp
       refine (tC _ _ _ _ W q8 q9).mono ?_;rintro e W3 ⟨rfl,hb3⟩;refine hK _ (.int .i64 (cmpN (Nat.gcd (VL l1) (VL l2)) 1)) _ (by rfl) (fun i u l hij hL h => ?_) (rfl) (hI.below hb3)
       ·match i,hij,hL,h with
        | 3,_,_,h => exact NatAt.below h hb3
        | 7,_,_,h => exact NatAt.below h hb3
        | 8,_,_,h => exact NatAt.below h hb3
        | 9,_,_,h => exact NatAt.below h hb3
        | 10,_,_,h => exact h
        | 11,_,_,h => exact h
        | 12,_,_,h => exact h
        | 0,_,_,_ | 1,_,_,_ | 2,_,_,_ | 4,_,_,_ | 5,_,_,_ | 6,_,_,_ | _ + 13,_,_,_ => trivial
      refine TabAll.cons rfl (by kernel_rfl) (fun L vs W hsz hcl hn hd hdn hI K hK => ?_) ?_
      ·simp only [wU,Act.put,List.setIfInBounds_toArray,List.set_cons_zero,List.set_cons_succ] at hK ⊢;have r10 := hd.1;generalize hv10 : vs 10 = v10 at *;have HV10 := Lib.hid hv10;clear hv10;clear hd hdn;have q10 : v10 = .int .i64 (cmpN (Nat.gcd (VL l1) (VL l2)) 1) := r10;clear r10;subst q10
       go_simp
       refine hK _ (.bool (cmpN (Nat.gcd (VL l1) (VL l2)) 1 == 0)) _ (by rfl) (fun i u l hij hL h => h) rfl hI
      refine TabAll.cons rfl (by kernel_rfl) (fun L vs W hsz hcl hn hd hdn hI K hK => ?_) ?_
      ·simp only [wU,Act.put,List.setIfInBounds_toArray,List.set_cons_zero,List.set_cons_succ] at hK ⊢;have r11 := hd.1;generalize hv11 : vs 11 = v11 at *;have HV11 := Lib.hid hv11;clear hv11;clear hd hdn;have q11 : v11 = .bool (cmpN (Nat.gcd (VL l1) (VL l2)) 1 == 0) := r11;subst q11
       go_simp
       refine hK _ (.bool (cmpN (Nat.gcd (VL l1) (VL l2)) 1 == 0)) _ (by rfl) (fun i u l hij hL h => h) rfl hI
      exact TabAll.nil
     case finr =>
      intro vs Wz hd L hsz hall hI;have r3 := hd.1;have r7 := hd.2.1;have r8 := hd.2.2.1;have r9 := hd.2.2.2.1;have r10 := hd.2.2.2.2.1;have r11 := hd.2.2.2.2.2.1;have r12 := hd.2.2.2.2.2.2.1;simp only [List.map_cons,List.map_nil,wU,Act.put,List.setIfInBounds_toArray,List.set_cons_zero,List.set_cons_succ];generalize vs 3 = v3 at *;generalize vs 7 = v7 at *;generalize vs 8 = v8 at *;generalize vs 9 = v9 at *;generalize vs 10 = v10 at *;generalize vs 11 = v11 at *;generalize vs 12 = v12 at *;clear hd hall hsz;refine NoPanic.normal ?_;obtain ⟨bb,hbb⟩ : ∃ bb,bb = (cmpN (Nat.gcd (VL l1) (VL l2)) 1 == 0) := ⟨_,rfl⟩;have q12 : v12 = .bool bb := by rw [hbb];exact r12
      have HBB := Lib.hid (HF.out bb hbb);clear hbb HF;clear r3 r7 r8 r9 r10 r11 hBd;subst q12;have HB := Lib.hid hI.1;clear hI
      go_wp2
      go_ret
      exact ⟨_,rfl,HBB.out,HB.out⟩
end Go.Proofs.YtnajlcfdjjmfiaaGreatDoor
