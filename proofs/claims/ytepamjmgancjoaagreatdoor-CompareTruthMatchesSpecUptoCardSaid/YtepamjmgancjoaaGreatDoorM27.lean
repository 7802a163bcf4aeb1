/- Part 27 of the proof. -/
import Derived.Test.YtepamjmgancjoaaGreatDoorM22
import Derived.Test.YtepamjmgancjoaaGreatDoorM23
namespace Go.Proofs.YtepamjmgancjoaaGreatDoor
open Go.RowKit
variable {md me : Bool}
structure Db3 (a one : Nat) where
 k : Nat
 c : Nat
 o : List Nat
 eq : V o + c * 65536 ^ k = 2 * V ((dig a).take k) + one
 lo : o.length = k
 dg : Dg o
 hc : c ≤ 1
 le : k ≤ (dig a).length
def Db3.s {a one : Nat} (x : Db3 a one) : Nat := 2 * (dig a).getD x.k 0 + x.c
def Db3.next {a one : Nat} (x : Db3 a one) (h : x.k < (dig a).length) : Db3 a one := ⟨x.k + 1,x.s / 65536,x.o ++ [x.s % 65536],double_step x.eq x.lo h (by unfold Db3.s;rw [getD_lt h]),by simp [x.lo],x.dg.snoc (Nat.mod_lt _ (by decide)),by
 have h1 := dig_at a x.k;have h3 := x.hc;unfold Db3.s;omega,h⟩
theorem Db3.fin {a one : Nat} (x : Db3 a one) (h : (dig a).length ≤ x.k) : V (x.o ++ [x.c]) = 2 * a + one := by
 have h1 := x.eq;rw [List.take_of_length_le h,V_dig] at h1;rw [V_snoc,x.lo,Nat.mul_comm];exact h1
theorem Db3.fin0 {a one : Nat} (x : Db3 a one) (h : (dig a).length ≤ x.k) (h0 : x.c = 0) : V x.o = 2 * a + one := by
 have h1 := x.fin h;rw [V_snoc,h0] at h1;exact h1
theorem sn271 {P : Program} {K : DS → Prop} {p : Prop} {r : Out} (hr : r.sat P K) (hp : p := by first | exact trivial | omega | exact ini (by omega) (by omega) | (intro hh;simp at hh;exact ini (by omega) (by omega)) | (intro hh;simp at hh ⊢;omega) | (simp at *;omega) | (simp_all;done) | (simp only [Int.toNat_natCast];exact ini (by omega) (by omega))) : (Out.need p r).sat P K := ⟨hp,hr⟩
theorem sn272 {P : Program} {K : DS → Prop} {p : Prop} {r : Out} (hr : r.sat P K) (hp : p := by first | exact ⟨by decide,td_in (by (try simp only [Int.toNat_natCast]);omega) (by (try simp only [Int.toNat_natCast]);omega)⟩ | exact td_in (by (try simp only [Int.toNat_natCast]);omega) (by (try simp only [Int.toNat_natCast]);omega) | first | exact trivial | omega | exact ini (by omega) (by omega) | (intro hh;simp at hh;exact ini (by omega) (by omega)) | (intro hh;simp at hh ⊢;omega) | (simp at *;omega) | (simp_all;done)) : (Out.need p r).sat P K := ⟨hp,hr⟩
theorem Double3_ok (a : Nat) (one : Bool) (ha : (dig a).length ≤ 10000000) : Fn Tryz.prog 131 [natD a,.v (.bool one)] (natD (2 * a + one.toNat)) := by
 have hon : one.toNat ≤ 1 := by cases one <;> decide
 refine yD tabT Tryz.func131 rfl rfl rfl rfl rfl rfl ?_;intro w0 s0 mx;refine ev_R tabT [] 100 ?_;refine ev_R tabT [] 200 ?_;refine zB ?_;refine ev_R tabT [] 300 ?_;refine zT (fun c2 => ?_) (fun c2 => ?_)
 ·
  refine ev_Q tabT [] 400 ?_;refine zA ?_;refine ev_R tabT [] 500 ?_;refine yO 6 3 1 rfl ?_;refine zB ?_;refine ev_R tabT [] 600 ?_;refine zM ?_;refine zX (ι := Db3 a one.toNat) [0] [] 650 (fun x => [(7,.v (.int .i64 (x.k : Nat))),(5,.v (.int .i64 (x.c : Nat))),(6,.own 500 1 (x.o.map nD))]) (fun x => [(500,.row 3 1 (x.o.map nD).length)]) (fun x => (dig a).length - x.k) ⟨0,one.toNat,[],by simp [V],rfl,Dg.nil,hon,by omega⟩ ?_;refine ⟨⟨(by first | exact trivial | (repeat (first | exact trivial | exact Sub.refl _ | refine ⟨?_,?_⟩ | exact Sub.int (by first | rfl | omega | (push_cast;omega)) | exact Sub.nilSl | exact Sub.own rfl | exact Sub.slrSl rfl | exact Sub.ownSl (List.map_append).symm | exact Sub.ownSl rfl | exact Sub.int (by show _ = ((one.toNat : Nat) : Int);rw [c2];rfl)))),le_o,rfl,rfl⟩,fun x => ?_⟩;have hk := x.le;have hk2 := x.lo;have hk3 := x.hc;have hk4 := dig_at a x.k;refine zB ?_;refine ev_R tabT [] 700 ?_;refine zT (fun c6 => ?_) (fun c6 => ?_)
  ·
   refine zK (zA ?_);refine zB ?_;refine zM ?_;refine zB (zE tabT [] 900 rfl ?_);repeat (first | refine zG ?_ | refine zH ?_ | refine sn271 ?_)
   refine zC (zA ?_);refine ev_R tabT [] 1000 ?_;refine zE tabT [] 1100 rfl ?_;repeat (first | refine zG ?_ | refine zH ?_ | refine sn272 ?_)
   refine zC (zJ (zA ?_));refine ev_Q tabT [] 1200 ?_;exact zQ (x.next (by omega)) ⟨(by first | exact trivial | (repeat (first | exact trivial | exact Sub.refl _ | refine ⟨?_,?_⟩ | exact Sub.int (by first | rfl | omega | (push_cast;omega)) | exact Sub.nilSl | exact Sub.own rfl | exact Sub.slrSl rfl | exact Sub.ownSl (List.map_append).symm | exact Sub.ownSl rfl | exact Sub.int (by show (x.k : Int) + 1 = ((x.k + 1 : Nat) : Int);omega) | exact Sub.int (td_n (by show _ = ((2 * (dig a).getD x.k 0 + x.c : Nat) : Int);(try simp only [Int.toNat_natCast]);omega)) | exact Sub.own (nD_snoc (tm_n (by show _ = ((2 * (dig a).getD x.k 0 + x.c : Nat) : Int);(try simp only [Int.toNat_natCast]);omega)))))),(by repeat (first | exact trivial | exact SubO.same rfl | exact ⟨rfl,rfl,by show _ = (List.map nD (x.o ++ _)).length;simp⟩ | refine ⟨?_,?_⟩)),rfl,rfl⟩ (by show (dig a).length - (x.k + 1) < (dig a).length - x.k;omega)
  ·
   refine yB (zU (zW (zS (zA ?_))));refine zB ?_;refine ev_R tabT [] 1200 ?_;refine zT (fun c11 => ?_) (fun c11 => ?_)
   ·
    refine ev_Q tabT [] 1300 ?_;refine zA ?_;refine zB (zE tabT [] 1400 rfl ?_);refine zF ?_;refine zO _ ((trim_ok (x.o ++ [x.c]) (x.dg.snoc (by omega)) (by have := hk2;simp <;> omega)).args ⟨SubP.ownSl (nD_snoc rfl),trivial⟩) rfl ?_
    refine zF ?_;refine zC (zA (zL ?_));exact FinV.ret rfl (SubP.of_eq (by rw [x.fin (by omega)]))
   ·
    refine zK (zA ?_);refine zB (zE tabT [] 1400 rfl ?_);refine zF ?_;refine zO _ ((trim_ok _ x.dg (by rw [hk2];omega)).args ⟨SubP.ownSl rfl,trivial⟩) rfl ?_;refine zF ?_;refine zC (zA (zL ?_));exact FinV.ret rfl (SubP.of_eq (by rw [x.fin0 (by omega) (by omega)]))
 ·
  refine zK (zA ?_);refine ev_R tabT [] 500 ?_;refine yO 6 3 1 rfl ?_;refine zB ?_;refine ev_R tabT [] 600 ?_;refine zM ?_;refine zX (ι := Db3 a one.toNat) [0] [] 650 (fun x => [(7,.v (.int .i64 (x.k : Nat))),(5,.v (.int .i64 (x.c : Nat))),(6,.own 500 1 (x.o.map nD))]) (fun x => [(500,.row 3 1 (x.o.map nD).length)]) (fun x => (dig a).length - x.k) ⟨0,one.toNat,[],by simp [V],rfl,Dg.nil,hon,by omega⟩ ?_;refine ⟨⟨(by first | exact trivial | (repeat (first | exact trivial | exact Sub.refl _ | refine ⟨?_,?_⟩ | exact Sub.int (by first | rfl | omega | (push_cast;omega)) | exact Sub.nilSl | exact Sub.own rfl | exact Sub.slrSl rfl | exact Sub.ownSl (List.map_append).symm | exact Sub.ownSl rfl | exact Sub.int (by show _ = ((one.toNat : Nat) : Int);rw [c2];rfl)))),le_o,rfl,rfl⟩,fun x => ?_⟩;have hk := x.le;have hk2 := x.lo;have hk3 := x.hc;have hk4 := dig_at a x.k;refine zB ?_;refine ev_R tabT [] 700 ?_;refine zT (fun c6 => ?_) (fun c6 => ?_)
  ·
   refine zK (zA ?_);refine zB ?_;refine zM ?_;refine zB (zE tabT [] 900 rfl ?_);repeat (first | refine zG ?_ | refine zH ?_ | refine sn271 ?_)
   refine zC (zA ?_);refine ev_R tabT [] 1000 ?_;refine zE tabT [] 1100 rfl ?_;repeat (first | refine zG ?_ | refine zH ?_ | refine sn272 ?_)
   refine zC (zJ (zA ?_));refine ev_Q tabT [] 1200 ?_;exact zQ (x.next (by omega)) ⟨(by first | exact trivial | (repeat (first | exact trivial | exact Sub.refl _ | refine ⟨?_,?_⟩ | exact Sub.int (by first | rfl | omega | (push_cast;omega)) | exact Sub.nilSl | exact Sub.own rfl | exact Sub.slrSl rfl | exact Sub.ownSl (List.map_append).symm | exact Sub.ownSl rfl | exact Sub.int (by show (x.k : Int) + 1 = ((x.k + 1 : Nat) : Int);omega) | exact Sub.int (td_n (by show _ = ((2 * (dig a).getD x.k 0 + x.c : Nat) : Int);(try simp only [Int.toNat_natCast]);omega)) | exact Sub.own (nD_snoc (tm_n (by show _ = ((2 * (dig a).getD x.k 0 + x.c : Nat) : Int);(try simp only [Int.toNat_natCast]);omega)))))),(by repeat (first | exact trivial | exact SubO.same rfl | exact ⟨rfl,rfl,by show _ = (List.map nD (x.o ++ _)).length;simp⟩ | refine ⟨?_,?_⟩)),rfl,rfl⟩ (by show (dig a).length - (x.k + 1) < (dig a).length - x.k;omega)
  ·
   refine yB (zU (zW (zS (zA ?_))));refine zB ?_;refine ev_R tabT [] 1200 ?_;refine zT (fun c11 => ?_) (fun c11 => ?_)
   ·
    refine ev_Q tabT [] 1300 ?_;refine zA ?_;refine zB (zE tabT [] 1400 rfl ?_);refine zF ?_;refine zO _ ((trim_ok (x.o ++ [x.c]) (x.dg.snoc (by omega)) (by have := hk2;simp <;> omega)).args ⟨SubP.ownSl (nD_snoc rfl),trivial⟩) rfl ?_
    refine zF ?_;refine zC (zA (zL ?_));exact FinV.ret rfl (SubP.of_eq (by rw [x.fin (by omega)]))
   ·
    refine zK (zA ?_);refine zB (zE tabT [] 1400 rfl ?_);refine zF ?_;refine zO _ ((trim_ok _ x.dg (by rw [hk2];omega)).args ⟨SubP.ownSl rfl,trivial⟩) rfl ?_;refine zF ?_;refine zC (zA (zL ?_));exact FinV.ret rfl (SubP.of_eq (by rw [x.fin0 (by omega) (by omega)]))
structure On3 (a : Nat) where
 k : Nat
 o : List Bool
 eq : VB o = V ((dig a).take k)
 lo : o.length = 16 * k
 le : k ≤ (dig a).length
structure Oi3 (a : Nat) (x : On3 a) where
 m : Nat
 y : Nat
 o : List Bool
 eq : VB o + y * 2 ^ (16 * x.k + m) = V ((dig a).take (x.k + 1))
 lo : o.length = 16 * x.k + m
 bd : y * 2 ^ m ≤ 65535
 le : m ≤ 16
def Oi3.start {a : Nat} (x : On3 a) : Oi3 a x := ⟨0,(dig a).getD x.k 0,x.o,by rw [qP,x.eq,Nat.add_zero,Nat.pow_mul,Nat.mul_comm],by rw [x.lo];rfl,by have := dig_at a x.k;omega,by omega⟩
theorem half_bd {x m : Nat} (h : x * 2 ^ m ≤ 65535) : x / 2 * 2 ^ (m + 1) ≤ 65535 := by
 have h1 : x / 2 * 2 ^ (m + 1) ≤ x * 2 ^ m := by
  rw [Nat.pow_succ,Nat.mul_comm (2 ^ m) 2,← Nat.mul_assoc];exact Nat.mul_le_mul_right _ (by omega)
 omega
def Oi3.next {a : Nat} {x : On3 a} (z : Oi3 a x) (h : z.m < 16) : Oi3 a x := ⟨z.m + 1,z.y / 2,z.o ++ [z.y % 2 == 1],ones_step z.eq z.lo,by rw [List.length_append,z.lo];rfl,half_bd z.bd,h⟩
theorem Oi3.y_le {a : Nat} {x : On3 a} (z : Oi3 a x) : z.y ≤ 65535 := Nat.le_trans (Nat.le_mul_of_pos_right _ (Nat.pow_pos (by decide))) z.bd
def Oi3.fin {a : Nat} {x : On3 a} (z : Oi3 a x) (h : 16 ≤ z.m) (hk : x.k < (dig a).length) : On3 a := ⟨x.k + 1,z.o,by
 have h1 := z.eq;have h2 := z.bd;have hm : z.m = 16 := by have := z.le;omega
 rw [hm] at h2;have h3 : z.y = 0 := by omega
 rw [h3,Nat.zero_mul,Nat.add_zero] at h1;exact h1,by have := z.lo;have := z.le;omega,hk⟩
structure TrmB (l : List Bool) where
 r : List Bool
 eq : VB r = VB l
 le : r.length ≤ l.length
theorem lastB {r : List Bool} (h : 0 < r.length) (h0 : r.getD (r.length - 1) false = false) : VB (r.take (r.length - 1)) = VB r := by
 have h1 := VB_take_succ (l := r) (m := r.length - 1) (by omega);have h2 : r[r.length - 1] = false := by rw [← h0,List.getD_eq_getElem?_getD,List.getElem?_eq_getElem (by omega)];rfl
 rw [h2,show r.length - 1 + 1 = r.length by omega,List.take_of_length_le (Nat.le_refl _)] at h1;rw [h1];exact (Nat.add_zero _).symm
def TrmB.next {l : List Bool} (x : TrmB l) (h : 0 < x.r.length) (h0 : x.r.getD (x.r.length - 1) false = false) : TrmB l := ⟨x.r.take (x.r.length - 1),by rw [lastB h h0,x.eq],by have := x.le;simp;omega⟩
theorem TrmB.fin {l : List Bool} (x : TrmB l) (h : 0 < x.r.length → x.r.getD (x.r.length - 1) false = true) : x.r = bitsN (VB l) := by
 rw [← x.eq];refine (bitsN_VB fun hne => ?_).symm;have hp : 0 < x.r.length := List.length_pos_iff.2 hne;rw [List.getLast_eq_getElem,← h hp,List.getD_eq_getElem?_getD,List.getElem?_eq_getElem (by omega)];rfl
theorem t_lastB (r : List Bool) : r.getD ((r.length : Int) - 1).toNat false = r.getD (r.length - 1) false := by congr 1;omega
theorem bitD {y : Nat} : decide (Int.tmod (y : Int) 2 = 1) = (y % 2 == 1) := by
 rw [Int.tmod_eq_emod_of_nonneg (by omega),Bool.eq_iff_iff,decide_eq_true_eq,beq_iff_eq];omega
theorem halfD {y : Nat} : Int.tdiv (y : Int) 2 = ((y / 2 : Nat) : Int) := by rw [Int.tdiv_eq_ediv_of_nonneg (by omega)];rfl
theorem bD_snoc {l : List Bool} {b c : Bool} (h : c = b) : l.map bD ++ [[.v (.bool c)]] = (l ++ [b]).map bD := by rw [List.map_append,h];rfl
theorem Ones3_ok (a : Nat) (ha : (dig a).length ≤ 10000000) : Fn Tryz.prog 165 [natD a] (.sl false 1 (bitsN a) bD false) := by
 refine yD tabT Tryz.func165 rfl rfl rfl rfl rfl rfl ?_;intro w0 s0 mx;refine ev_R tabT [] 100 ?_;refine ev_R tabT [] 200 ?_;refine yO 3 4 1 rfl ?_;refine zB ?_;refine ev_R tabT [] 300 ?_;refine zM ?_;refine zX (ι := On3 a) [0] [] 350 (fun x => [(4,.v (.int .i64 (x.k : Nat))),(3,.own 200 1 (x.o.map bD))]) (fun x => [(200,.row 4 1 (x.o.map bD).length)]) (fun x => (dig a).length - x.k) ⟨0,[],rfl,rfl,Nat.zero_le _⟩ ?_;refine ⟨⟨le_t,le_o,rfl,rfl⟩,fun x => ?_⟩;have hk := x.le;have hk2 := x.lo;refine zB ?_;refine ev_R tabT [] 400 ?_;refine zT (fun c3 => ?_) (fun c3 => ?_)
 ·
  refine zK (zA ?_);refine zB ?_;refine zM ?_;refine ev_R tabT [] 600 ?_;refine ev_R tabT [] 700 ?_;refine zM ?_;refine zX (ι := Oi3 a x) [0,4] [] 750 (fun z => [(6,.v (.int .i64 (z.m : Nat))),(5,.v (.int .i64 (z.y : Nat))),(3,.own 200 1 (z.o.map bD))]) (fun z => [(200,.row 4 1 (z.o.map bD).length)]) (fun z => 16 - z.m) (Oi3.start x) ?_;refine ⟨⟨le_t,le_o,rfl,rfl⟩,fun z => ?_⟩;have hz := z.le;have hz2 := z.lo;have hz3 := z.y_le;refine zB ?_;refine ev_R tabT [] 800 ?_;refine zT (fun c7 => ?_) (fun c7 => ?_)
  ·
   refine zK (zA ?_);refine zB ?_;refine zM ?_;refine zB (zE tabT [] 1000 rfl ?_);repeat (first | refine zG ?_ | refine zH ?_ | refine zR (by first | (refine ⟨?_,?_⟩ <;> (simp only [List.length_map,List.length_cons,List.length_nil];omega)) | (simp only [List.length_map,List.length_cons,List.length_nil];omega) | first | exact trivial | omega | exact ini (by omega) (by omega) | (intro hh;simp at hh;exact ini (by omega) (by omega)) | (intro hh;simp at hh ⊢;omega) | (simp at *;omega) | (simp_all;done)) ?_)
   refine zC (zA ?_);refine zE tabT [] 1100 rfl ?_;repeat (first | refine zG ?_ | refine zH ?_ | refine zR (by first | exact ⟨by decide,by rw [halfD];exact ini (by omega) (by omega)⟩ | (rw [halfD];exact ini (by omega) (by omega)) | first | exact trivial | omega | exact ini (by omega) (by omega) | (intro hh;simp at hh;exact ini (by omega) (by omega)) | (intro hh;simp at hh ⊢;omega) | (simp at *;omega) | (simp_all;done)) ?_)
   refine zC (zJ (zA ?_));refine ev_Q tabT [] 1200 ?_;exact zQ (z.next (by omega)) ⟨(by first | exact trivial | (repeat (first | exact trivial | exact Sub.refl _ | refine ⟨?_,?_⟩ | exact Sub.int (by first | rfl | omega | (push_cast;omega)) | exact Sub.nilSl | exact Sub.own rfl | exact Sub.slrSl rfl | exact Sub.ownSl (List.map_append).symm | exact Sub.ownSl rfl | exact Sub.int (by show (z.m : Int) + 1 = ((z.m + 1 : Nat) : Int);omega) | exact Sub.int halfD | exact Sub.own (bD_snoc bitD)))),(by repeat (first | exact trivial | exact SubO.same rfl | exact ⟨rfl,rfl,by show _ = (List.map bD (z.o ++ _)).length;simp⟩ | refine ⟨?_,?_⟩)),rfl,rfl⟩ (by show 16 - (z.m + 1) < 16 - z.m;omega)
  ·
   refine yB (zU (zW (zS (zJ (zA ?_)))));refine ev_Q tabT [] 900 ?_;exact zQ (z.fin (by omega) (by omega)) ⟨(by first | exact trivial | (repeat (first | exact trivial | exact Sub.refl _ | refine ⟨?_,?_⟩ | exact Sub.int (by first | rfl | omega | (push_cast;omega)) | exact Sub.nilSl | exact Sub.own rfl | exact Sub.slrSl rfl | exact Sub.ownSl (List.map_append).symm | exact Sub.ownSl rfl | exact Sub.int (by show (x.k : Int) + 1 = ((x.k + 1 : Nat) : Int);omega)))),le_o,rfl,rfl⟩ (by show (dig a).length - (x.k + 1) < (dig a).length - x.k;omega)
 ·
  refine yB (zU (zW (zS (zA ?_))));refine zB ?_;refine zM ?_;refine zX (ι := TrmB x.o) [] [] 450 (fun t => [(3,.sl false 1 t.r bD false)]) (fun _ => []) (fun t => t.r.length) ⟨x.o,rfl,Nat.le_refl _⟩ ?_;refine ⟨⟨⟨Sub.ownSl rfl,le_t⟩,le_o,rfl,rfl⟩,fun t => ?_⟩;have ht := t.le;refine zB ?_;refine ev_R tabT [] 1200 ?_;refine zT (fun c11 => ?_) (fun c11 => ?_)
  ·
   refine zK (zA (zM ?_));refine ev_Q tabT [] 1300 ?_;refine zJ ?_;have h9 := c11.2;rw [t_lastB] at h9;exact zQ (t.next (by omega) (by simpa using h9)) ⟨(by first | exact trivial | (repeat (first | exact trivial | exact Sub.refl _ | refine ⟨?_,?_⟩ | exact Sub.int (by first | rfl | omega | (push_cast;omega)) | exact Sub.nilSl | exact Sub.own rfl | exact Sub.slrSl rfl | exact Sub.ownSl (List.map_append).symm | exact Sub.ownSl rfl | exact Sub.of_eq (by rw [t_cut];rfl)))),le_o,rfl,rfl⟩ (by show (t.r.take (t.r.length - 1)).length < t.r.length;rw [List.length_take];omega)
  ·
   refine yB (zU (zW (zS (zA ?_))));refine ev_R tabT [] 1400 ?_;refine zL ?_;have e : t.r = bitsN (VB x.o) := t.fin (fun hp => by rw [t_lastB] at c11;simp [hp] at c11;simpa using c11);exact FinV.ret rfl (SubP.of_eq (by rw [e,x.eq,List.take_of_length_le (by omega),V_dig]))
structure Ti3 (a b : Nat) where
 i : Nat
 o : List Nat
 eq : V o = V ((dig a).take i) * b
 lo : o.length = (dig a).length + (dig b).length + 1
 dg : Dg o
 le : i ≤ (dig a).length
def Ti3.start (a b : Nat) : Ti3 a b := ⟨0,List.replicate ((dig a).length + (dig b).length + 1) 0,by rw [V_zeros,List.take_zero,V_nil,Nat.zero_mul],by simp,Dg_zeros _,Nat.zero_le _⟩
structure Tj3 (a b i : Nat) where
 k : Nat
 c : Nat
 o : List Nat
 eq : V o + c * 65536 ^ (i + k) = V ((dig a).take i) * b + (dig a).getD i 0 * 65536 ^ i * V ((dig b).take k)
 lo : o.length = (dig a).length + (dig b).length + 1
 dg : Dg o
 hc : c < 65536
 le : k ≤ (dig b).length + 1
def Tj3.start {a b : Nat} (x : Ti3 a b) : Tj3 a b x.i := ⟨0,0,x.o,by simp [V_nil,x.eq],x.lo,x.dg,by decide,Nat.zero_le _⟩
def Tj3.s {a b i : Nat} (y : Tj3 a b i) : Nat := y.o.getD (i + y.k) 0 + y.c + (dig a).getD i 0 * (dig b).getD y.k 0
theorem Dg_at {l : List Nat} (h : Dg l) (i : Nat) : l.getD i 0 < 65536 := by
 rcases Nat.lt_or_ge i l.length with h1 | h1
 ·rw [getD_lt h1];exact h.at h1
 ·rw [getD_ge h1];omega
theorem mul16 {x y : Nat} (hx : x < 65536) (hy : y < 65536) : x * y ≤ 4294836225 := Nat.mul_le_mul (show x ≤ 65535 by omega) (show y ≤ 65535 by omega)
theorem Tj3.s_lt {a b i : Nat} (y : Tj3 a b i) : y.s < 4294967296 := by
 have h1 := Dg_at y.dg (i + y.k);have h2 := y.hc;have h3 := mul16 (dig_at a i) (dig_at b y.k);unfold Tj3.s;omega
theorem Tj3.inn {a b i : Nat} (y : Tj3 a b i) (hi : i < (dig a).length) (h : y.k < (dig b).length ∨ 0 < y.c) : y.k ≤ (dig b).length := by
 rcases h with h | h
 ·omega
 ·rcases Nat.lt_or_ge (dig b).length y.k with h1 | h1
  ·have h2 := y.eq;rw [List.take_of_length_le (Nat.le_of_lt h1)] at h2;exact times_in (dig_Dg a) (dig_Dg b) hi h (by rw [h2,V_dig,getD_lt hi])
  ·exact h1
def Tj3.next {a b i : Nat} (y : Tj3 a b i) (hi : i < (dig a).length) (h : y.k < (dig b).length ∨ 0 < y.c) : Tj3 a b i :=
 ⟨y.k + 1,y.s / 65536,y.o.set (i + y.k) (y.s % 65536),times_step y.eq (by have := y.inn hi h;rw [y.lo];omega) (by unfold Tj3.s;rw [getD_lt (l := y.o) (by have := y.inn hi h;rw [y.lo];omega)]),by rw [List.length_set,y.lo],y.dg.set _ (Nat.mod_lt _ (by decide)),by have := y.s_lt;omega,by have := y.inn hi h;omega⟩
def Tj3.fin {a b : Nat} {x : Ti3 a b} (y : Tj3 a b x.i) (hi : x.i < (dig a).length) (h1 : (dig b).length ≤ y.k) (h2 : y.c = 0) : Ti3 a b := ⟨x.i + 1,y.o,by
 have h3 := y.eq;rw [List.take_of_length_le h1,h2,Nat.zero_mul,Nat.add_zero,V_dig,getD_lt hi,times_row hi] at h3;exact h3,y.lo,y.dg,hi⟩
theorem zrowsN (n : Nat) : (MR.map (List.replicate n ()) (fun _ => litS [.int .i64 0]) ()).rows = (MR.map (List.replicate n 0) nD 0).rows := by
 simp only [MR.rows,List.map_replicate];rfl
theorem set_rowsN (o : List Nat) (j v : Nat) : (MR.upd (.map o nD 0) j (nD v)).rows = (MR.map (o.set j v) nD 0).rows := by
 simp only [MR.rows,List.map_set]
theorem sn273 {P : Program} {K : DS → Prop} {p : Prop} {r : Out} (hr : r.sat P K) (hp : p := by first | exact ⟨hm2,by rw [← hm2];omega⟩ | exact ⟨hm2,by omega⟩ | exact ⟨hm,by rw [← hm];omega⟩ | exact ⟨hm,by omega⟩ | (simp only [hj,Int.toNat_natCast];exact ini (by omega) (by omega)) | (simp only [hj,Int.toNat_natCast];constructor <;> omega) | first | exact trivial | omega | exact ini (by omega) (by omega) | (intro hh;simp at hh;exact ini (by omega) (by omega)) | (intro hh;simp at hh ⊢;omega) | (simp at *;omega) | (simp_all;done)) : (Out.need p r).sat P K := ⟨hp,hr⟩
theorem sn274 {P : Program} {K : DS → Prop} {p : Prop} {r : Out} (hr : r.sat P K) (hp : p := by first | exact ⟨by decide,td_in (by (try simp only [hj,Int.toNat_natCast]);omega) (by (try simp only [hj,Int.toNat_natCast]);omega)⟩ | exact td_in (by (try simp only [hj,Int.toNat_natCast]);omega) (by (try simp only [hj,Int.toNat_natCast]);omega) | first | exact trivial | omega | exact ini (by omega) (by omega) | (intro hh;simp at hh;exact ini (by omega) (by omega)) | (intro hh;simp at hh ⊢;omega) | (simp at *;omega) | (simp_all;done)) : (Out.need p r).sat P K := ⟨hp,hr⟩
theorem Times3_ok (a b : Nat) (ha : (dig a).length ≤ 1000000) (hb : (dig b).length ≤ 1000000) : Fn Tryz.prog 146 [natD a,natD b] (natD (a * b)) := by
 refine yD tabT Tryz.func146 rfl rfl rfl rfl rfl rfl ?_;intro w0 s0 mx;refine ev_R tabT [] 100 ?_;refine ev_R tabT [1016] 200 ?_;refine yN [0,1] [] 210 [(5,.mo 106 ((dig a).length + (dig b).length + 1))] [(106,.mrow 3 1 (.map (List.replicate ((dig a).length + (dig b).length + 1) 0) nD 0))] ?_;refine ⟨⟨⟨Sub.mo (by omega),le_t⟩,⟨SubO.mr (by rw [zrowsN];congr 3),le_o⟩,rfl,rfl⟩,?_⟩;refine zB ?_;refine ev_R tabT [] 300 ?_;refine zM ?_;refine zX (ι := Ti3 a b) [0,1,5] [] 350 (fun x => [(6,.v (.int .i64 (x.i : Nat)))]) (fun x => [(106,.mrow 3 1 (.map x.o nD 0))]) (fun x => (dig a).length - x.i) (Ti3.start _ _) ?_;refine ⟨⟨le_t,le_o,rfl,rfl⟩,fun x => ?_⟩;have hk := x.le;have hlo := x.lo;have hm : ((dig a).length + (dig b).length + 1) = (MR.map x.o nD 0).len := by rw [MR.len,hlo]
 refine zB ?_;refine ev_R tabT [] 400 ?_;refine zT (fun c3 => ?_) (fun c3 => ?_)
 ·
  refine zK (zA ?_);refine zB ?_;refine zM ?_;refine ev_R tabT [] 600 ?_;refine ev_R tabT [] 700 ?_;refine zM ?_;refine zX (ι := Tj3 a b x.i) [0,1,5,6] [] 750 (fun y => [(8,.v (.int .i64 (y.k : Nat))),(7,.v (.int .i64 (y.c : Nat)))]) (fun y => [(106,.mrow 3 1 (.map y.o nD 0))]) (fun y => (dig b).length + 2 - y.k) (Tj3.start x) ?_;refine ⟨⟨le_t,le_o,rfl,rfl⟩,fun y => ?_⟩;have hky := y.le;have hly := y.lo;have hm2 : ((dig a).length + (dig b).length + 1) = (MR.map y.o nD 0).len := by rw [MR.len,hly]
  have hj : ((x.i : Int) + (y.k : Int)).toNat = x.i + y.k := by omega
  have hyc := y.hc;have hyo := Dg_at y.dg (x.i + y.k);have hym := mul16 (dig_at a x.i) (dig_at b y.k);have hya := dig_at a x.i;have hyb := dig_at b y.k;refine zB ?_;refine ev_R tabT [] 800 ?_;refine zT (fun c7 => ?_) (fun c7 => ?_)
  ·
   refine zK (zA ?_);refine zB ?_;refine zM ?_;have hcc : y.k < (dig b).length ∨ 0 < y.c := by omega
   have hin := y.inn c3 hcc;refine zB (zE tabT [] 1000 rfl ?_);repeat (first | refine zG ?_ | refine zH ?_ | refine sn273 ?_)
   refine zC (zA ?_);refine zB ?_;refine ev_R tabT [] 1100 ?_;refine zT (fun c10 => ?_) (fun c10 => ?_)
   ·
    refine zZ tabT [] [[],[],[],[1,2],[1,2,3],[],[],[5,6],[5,6,7],[1,2,3,4,5,6,7,8],[0,1,2,3,4,5,6,7,8,9],[0,1,2,3,4,5,6,7,8,9,10]] 1200 mixT (by kernel_rfl) rfl ?_;repeat (first | refine zG ?_ | refine zH ?_ | refine sn273 ?_)
    refine zC (zA ?_);refine zB (zE tabT [] 1300 rfl ?_);repeat (first | refine zG ?_ | refine zH ?_ | refine sn273 ?_)
    refine zC (zA ?_);refine zE tabT [] 1400 rfl ?_;repeat (first | refine zG ?_ | refine zH ?_ | refine sn274 ?_)
    refine zC (zJ (zA ?_));refine ev_Q tabT [] 1500 ?_;have hcc : y.k < (dig b).length ∨ 0 < y.c := by omega
    have hjn : x.i + y.k < (dig a).length + (dig b).length + 1 := by have := y.inn c3 hcc;omega
    exact zQ (y.next c3 hcc) ⟨(by first | exact trivial | (repeat (first | exact trivial | exact Sub.refl _ | refine ⟨?_,?_⟩ | exact Sub.int (by first | rfl | omega | (push_cast;omega)) | exact Sub.nilSl | exact Sub.own rfl | exact Sub.slrSl rfl | exact Sub.ownSl (List.map_append).symm | exact Sub.ownSl rfl | exact Sub.int (by show (y.k : Int) + 1 = ((y.k + 1 : Nat) : Int);omega) | exact Sub.int (td_n (by show _ = ((y.o.getD (x.i + y.k) 0 + y.c + (dig a).getD x.i 0 * (dig b).getD y.k 0 : Nat) : Int);(try simp only [hj,Int.toNat_natCast]);push_cast;omega))))),⟨SubO.mr (by (try simp only [hj]);rw [tm_n (by show _ = ((y.o.getD (x.i + y.k) 0 + y.c + (dig a).getD x.i 0 * (dig b).getD y.k 0 : Nat) : Int);(try simp only [hj,Int.toNat_natCast]);push_cast;omega)];exact set_rowsN _ _ _),le_o⟩,rfl,rfl⟩ (by show (dig b).length + 2 - (y.k + 1) < (dig b).length + 2 - y.k;omega)
   ·
    refine zK (zA ?_);refine zB (zE tabT [] 1300 rfl ?_);repeat (first | refine zG ?_ | refine zH ?_ | refine sn273 ?_)
    refine zC (zA ?_);refine zE tabT [] 1400 rfl ?_;repeat (first | refine zG ?_ | refine zH ?_ | refine sn274 ?_)
    refine zC (zJ (zA ?_));refine ev_Q tabT [] 1500 ?_;have hcc : y.k < (dig b).length ∨ 0 < y.c := by omega
    have hjn : x.i + y.k < (dig a).length + (dig b).length + 1 := by have := y.inn c3 hcc;omega
    exact zQ (y.next c3 hcc) ⟨(by first | exact trivial | (repeat (first | exact trivial | exact Sub.refl _ | refine ⟨?_,?_⟩ | exact Sub.int (by first | rfl | omega | (push_cast;omega)) | exact Sub.nilSl | exact Sub.own rfl | exact Sub.slrSl rfl | exact Sub.ownSl (List.map_append).symm | exact Sub.ownSl rfl | exact Sub.int (by show (y.k : Int) + 1 = ((y.k + 1 : Nat) : Int);omega) | exact Sub.int (td_n (by show _ = ((y.o.getD (x.i + y.k) 0 + y.c + (dig a).getD x.i 0 * (dig b).getD y.k 0 : Nat) : Int);rw [getD_ge (l := dig b) (by omega),Nat.mul_zero,Nat.add_zero];(try simp only [hj,Int.toNat_natCast]);push_cast;rfl))))),⟨SubO.mr (by (try simp only [hj]);rw [tm_n (by show _ = ((y.o.getD (x.i + y.k) 0 + y.c + (dig a).getD x.i 0 * (dig b).getD y.k 0 : Nat) : Int);rw [getD_ge (l := dig b) (by omega),Nat.mul_zero,Nat.add_zero];(try simp only [hj,Int.toNat_natCast]);push_cast;rfl)];exact set_rowsN _ _ _),le_o⟩,rfl,rfl⟩ (by show (dig b).length + 2 - (y.k + 1) < (dig b).length + 2 - y.k;omega)
  ·
   refine yB (zU (zW (zS (zJ (zA ?_)))));refine ev_Q tabT [] 900 ?_;exact zQ (y.fin c3 (by omega) (by omega)) ⟨(by first | exact trivial | (repeat (first | exact trivial | exact Sub.refl _ | refine ⟨?_,?_⟩ | exact Sub.int (by first | rfl | omega | (push_cast;omega)) | exact Sub.nilSl | exact Sub.own rfl | exact Sub.slrSl rfl | exact Sub.ownSl (List.map_append).symm | exact Sub.ownSl rfl | exact Sub.int (by show (x.i : Int) + 1 = ((x.i + 1 : Nat) : Int);omega)))),le_o,rfl,rfl⟩ (by show (dig a).length - (x.i + 1) < (dig a).length - x.i;omega)
 ·
  refine yB (zU (zW (zS (zA ?_))));refine ev_freeze 106 rfl (by repeat (first | exact trivial | exact hm | refine ⟨?_,?_⟩)) (by repeat (first | exact trivial | refine ⟨?_,?_⟩)) ?_;refine zB (zE tabT [] 1500 rfl ?_);refine zF ?_;refine zO _ ((trim_ok x.o x.dg (by omega)).args ⟨SubP.ownSl rfl,trivial⟩) rfl ?_;refine zF ?_;refine zC (zA (zL ?_));have e := x.eq;rw [List.take_of_length_le (by omega),V_dig] at e;exact FinV.ret rfl (SubP.of_eq (by rw [e]))
structure Dv3 (a b : Nat) where
 i : Nat
 q : List Bool
 R : Nat
 eq : VB ((bitsN a).drop i) = VB q * b + R
 lo : i + q.length = (bitsN a).length
 lt : R < b
def Dv3.start {b : Nat} (a : Nat) (h : 0 < b) : Dv3 a b := ⟨(bitsN a).length,[],0,by rw [List.drop_of_length_le (Nat.le_refl _)];simp [VB],rfl,h⟩
def Dv3.o {a b : Nat} (x : Dv3 a b) : List Bool := List.replicate x.i false ++ x.q
theorem Dv3.o_len {a b : Nat} (x : Dv3 a b) : x.o.length = (bitsN a).length := by unfold Dv3.o;rw [List.length_append,List.length_replicate,x.lo]
def Dv3.r {a b : Nat} (x : Dv3 a b) : Nat := 2 * x.R + ((bitsN a).getD (x.i - 1) false).toNat
theorem dv3_step {B Q b R R' t bit Z : Nat} (h : Z = Q * b + R) (hR : R' + t * b = 2 * R + bit) : bit + 2 * Z = (t + 2 * Q) * b + R' := by
 rw [h,Nat.add_mul,Nat.mul_add,Nat.mul_assoc 2 Q b];omega
def Dv3.next {a b : Nat} (x : Dv3 a b) (h : 0 < x.i) (t : Bool) (R' : Nat) (hR : R' + t.toNat * b = x.r) (hl : R' < b) : Dv3 a b := ⟨x.i - 1,t :: x.q,R',by
 have h1 := x.lo;have h2 : x.i - 1 < (bitsN a).length := by omega
 rw [List.drop_eq_getElem_cons h2,show x.i - 1 + 1 = x.i by omega,VB_cons,VB_cons];refine dv3_step (B := 0) x.eq ?_;rw [hR];unfold Dv3.r;rw [List.getD_eq_getElem?_getD,List.getElem?_eq_getElem h2];rfl,by have := x.lo;rw [List.length_cons];omega,hl⟩
theorem rep_last {q : List Bool} {i : Nat} (h : 0 < i) : List.replicate (i - 1) false ++ (false :: q) = List.replicate i false ++ q := by
 obtain ⟨j,rfl⟩ : ∃ j,i = j + 1 := ⟨i - 1,by omega⟩;rw [Nat.add_sub_cancel,List.replicate_succ',List.append_assoc];rfl
theorem rep_set {q : List Bool} {i : Nat} (h : 0 < i) : (List.replicate i false ++ q).set (i - 1) true = List.replicate (i - 1) false ++ (true :: q) := by
 rw [← rep_last h,List.set_append_right _ _ (by simp),List.length_replicate,Nat.sub_self,List.set_cons_zero]
theorem bitsN_le (a : Nat) : (bitsN a).length ≤ 16 * (dig a).length := bitsN_length_le (by rw [Nat.pow_mul];exact dig_lt a)
theorem dig_dbl {r : Nat} (n : Nat) (h : (dig r).length ≤ n) {t : Nat} (ht : t ≤ 1) : (dig (2 * r + t)).length ≤ n + 1 := by
 refine qH ?_;have h1 := dig_lt r;have h2 : 65536 ^ (dig r).length ≤ 65536 ^ n := Nat.pow_le_pow_right (by decide) h;rw [Nat.pow_succ];omega
theorem cmpN_ge (x y : Nat) : 0 ≤ cmpN x y ↔ y ≤ x := by
 unfold cmpN;split
 ·constructor
  ·intro h;exact absurd h (by decide)
  ·intro h;omega
 ·constructor
  ·intro _;omega
  ·intro _;split <;> decide
theorem Sub.nil0 : Sub (.v (.slice none 0 0)) (natD 0) := by
 unfold natD;rw [qG];exact Sub.nilSl
theorem zrowsB (n : Nat) : (MR.map (List.replicate n ()) (fun _ => litS [.bool false]) ()).rows = (MR.map (List.replicate n false) bD false).rows := by
 simp only [MR.rows,List.map_replicate];rfl
theorem set_rowsB (o : List Bool) (j : Nat) (v : Bool) : (MR.upd (.map o bD false) j (bD v)).rows = (MR.map (o.set j v) bD false).rows := by
 simp only [MR.rows,List.map_set]
theorem sn275 {P : Program} {K : DS → Prop} {p : Prop} {r : Out} (hr : r.sat P K) (hp : p := by first | exact ⟨hm,by rw [← hm];omega⟩ | exact ⟨hm,by omega⟩ | (constructor <;> omega) | first | exact trivial | omega | exact ini (by omega) (by omega) | (intro hh;simp at hh;exact ini (by omega) (by omega)) | (intro hh;simp at hh ⊢;omega) | (simp at *;omega) | (simp_all;done)) : (Out.need p r).sat P K := ⟨hp,hr⟩
theorem Divide3_ok (a b : Nat) (ha : (dig a).length ≤ 1000000) (hb : (dig b).length ≤ 1000000) (h0 : 0 < b) : Fn Tryz.prog 144 [natD a,natD b] (.tup [natD (a / b),natD (a % b)]) := by
 have hbl := bitsN_le a;refine yD tabT Tryz.func144 rfl rfl rfl rfl rfl rfl ?_;intro w0 s0 mx;refine ev_R tabT [] 100 ?_;refine zB (zE tabT [] 200 rfl ?_);refine zF ?_;refine zO _ (Ones3_ok a (by omega)) rfl ?_;refine zF ?_;refine zC (zA ?_);refine ev_R tabT [1014] 300 ?_;refine yN [1,6] [] 310 [(7,.mo 202 (bitsN a).length)] [(202,.mrow 4 1 (.map (List.replicate (bitsN a).length false) bD false))] ?_;refine ⟨⟨⟨Sub.mo (by omega),le_t⟩,⟨SubO.mr (by rw [zrowsB];congr 3),le_o⟩,rfl,rfl⟩,?_⟩;refine ev_R tabT [] 400 ?_;refine yN [1,6,7] [202] 410 [(8,natD 0)] [] ?_;refine ⟨⟨⟨Sub.nil0,le_t⟩,le_o,rfl,rfl⟩,?_⟩;refine zB ?_;refine ev_R tabT [] 500 ?_;refine zM ?_;refine zX (ι := Dv3 a b) [1,6,7] [] 550 (fun x => [(9,.v (.int .i64 ((x.i : Int) - 1))),(8,natD x.R)]) (fun x => [(202,.mrow 4 1 (.map x.o bD false))]) (fun x => x.i) (Dv3.start a h0) ?_;refine ⟨⟨le_t,⟨SubO.mr (by show _ = ((List.replicate (bitsN a).length false) ++ []).map bD;rw [List.append_nil];rfl),le_o⟩,rfl,rfl⟩,fun x => ?_⟩;have hlo := x.lo;have hm : (bitsN a).length = (MR.map x.o bD false).len := by rw [MR.len,x.o_len]
 have hkt : ((x.i : Int) - 1).toNat = x.i - 1 := by omega
 refine zB ?_;refine ev_R tabT [] 600 ?_;refine zT (fun c5 => ?_) (fun c5 => ?_)
 ·
  refine zK (zA ?_);refine zB ?_;refine zM ?_;refine zB (zE tabT [] 800 rfl ?_);repeat (first | refine zG ?_ | refine zH ?_ | refine sn275 ?_)
  refine zO _ (Double3_ok x.R _ (Nat.le_trans (yY (Nat.le_of_lt x.lt)) (by omega))) rfl ?_;repeat (first | refine zG ?_ | refine zH ?_ | refine sn275 ?_)
  refine zC (zA ?_);refine zB (zE tabT [] 900 rfl ?_);refine zF ?_;refine zO _ (Compare3_ok _ _ (Nat.le_trans (dig_dbl _ (yY (Nat.le_of_lt x.lt)) (Bool.toNat_le _)) (by omega)) (by omega)) rfl ?_;refine zF ?_;refine zC (zA ?_);refine zT (fun c8 => ?_) (fun c8 => ?_)
  ·
   refine zB (zE tabT [] 1000 rfl ?_);refine zF ?_;refine zO _ (Minus3_ok _ _ ((cmpN_ge _ _).1 (by simpa using c8)) (Nat.le_trans (dig_dbl _ (yY (Nat.le_of_lt x.lt)) (Bool.toNat_le _)) (by omega))) rfl ?_;refine zF ?_;refine zC (zA ?_);refine zE tabT [] 1100 rfl ?_;repeat (first | refine zG ?_ | refine zH ?_ | refine sn275 ?_)
   refine zC (zJ (zA ?_));refine ev_Q tabT [] 1200 ?_;have hge : b ≤ x.r := (cmpN_ge _ _).1 (by simpa [Dv3.r,hkt] using c8);exact zQ (x.next (by omega) true (x.r - b) (by simp;omega) (by have := x.lt;have := Bool.toNat_le ((bitsN a).getD (x.i - 1) false);have : x.r = 2 * x.R + ((bitsN a).getD (x.i - 1) false).toNat := rfl;omega)) ⟨(by first | exact trivial | (repeat (first | exact trivial | exact Sub.refl _ | refine ⟨?_,?_⟩ | exact Sub.int (by first | rfl | omega | (push_cast;omega)) | exact Sub.nilSl | exact Sub.own rfl | exact Sub.slrSl rfl | exact Sub.ownSl (List.map_append).symm | exact Sub.ownSl rfl | exact Sub.int (by show (x.i : Int) - 1 - 1 = ((x.i - 1 : Nat) : Int) - 1;omega) | exact Sub.of_eq (by (try simp only [hkt]);rfl)))),⟨SubO.mr (by (try simp only [hkt]);show (MR.upd (.map x.o bD false) (x.i - 1) (bD true)).rows = _;rw [set_rowsB,Dv3.o,rep_set (by omega)];rfl),le_o⟩,rfl,rfl⟩ (by show x.i - 1 < x.i;omega)
  ·
   refine zK (zJ (zA ?_));refine ev_Q tabT [] 1000 ?_;have hge : ¬ b ≤ x.r := fun h => by have := (cmpN_ge _ _).2 h;revert c8;simp only [hkt];unfold Dv3.r at this;omega
   exact zQ (x.next (by omega) false x.r (by simp) (by omega)) ⟨(by first | exact trivial | (repeat (first | exact trivial | exact Sub.refl _ | refine ⟨?_,?_⟩ | exact Sub.int (by first | rfl | omega | (push_cast;omega)) | exact Sub.nilSl | exact Sub.own rfl | exact Sub.slrSl rfl | exact Sub.ownSl (List.map_append).symm | exact Sub.ownSl rfl | exact Sub.int (by show (x.i : Int) - 1 - 1 = ((x.i - 1 : Nat) : Int) - 1;omega) | exact Sub.of_eq (by (try simp only [hkt]);rfl)))),⟨SubO.mr (by show (MR.map x.o bD false).rows = (MR.map (List.replicate (x.i - 1) false ++ (false :: x.q)) bD false).rows;rw [rep_last (by omega)];rfl),le_o⟩,rfl,rfl⟩ (by show x.i - 1 < x.i;omega)
 ·
  refine yB (zU (zW (zS (zA ?_))));refine ev_freeze 202 rfl (by repeat (first | exact trivial | exact hm | refine ⟨?_,?_⟩)) (by repeat (first | exact trivial | refine ⟨?_,?_⟩)) ?_;refine zB (zE tabT [] 1200 rfl ?_);refine zF ?_;refine zO _ ((Binary_ok x.o (by rw [x.o_len];omega)).args ⟨SubP.ownSl rfl,trivial⟩) rfl ?_;refine zF ?_;refine zC (zA (zL ?_));have hz : x.i = 0 := by omega
  have e := x.eq;rw [hz,List.drop_zero,VB_bitsN] at e;have e2 := divide_end e x.lt;exact FinV.ret rfl (SubP.tup ⟨SubP.of_eq (by rw [Dv3.o,hz,List.replicate_zero,List.nil_append,e2.1]),SubP.of_eq (by rw [e2.2];rfl),trivial⟩)
end Go.Proofs.YtepamjmgancjoaaGreatDoor
