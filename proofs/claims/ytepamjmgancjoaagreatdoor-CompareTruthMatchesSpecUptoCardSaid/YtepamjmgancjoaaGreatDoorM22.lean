/- Part 22 of the proof. -/
import Derived.Test.YtepamjmgancjoaaGreatDoorM21
namespace Go.Proofs.YtepamjmgancjoaaGreatDoor
open Go.RowKit
variable {md me : Bool}
theorem td_n {e : Int} {s : Nat} (h : e = (s : Int)) : Int.tdiv e 65536 = ((s / 65536 : Nat) : Int) := by rw [h,Int.tdiv_eq_ediv_of_nonneg (by omega)];rfl
theorem tm_n {e : Int} {s : Nat} (h : e = (s : Int)) : Int.tmod e 65536 = ((s % 65536 : Nat) : Int) := by rw [h,Int.tmod_eq_emod_of_nonneg (by omega)];rfl
theorem td_in {e : Int} (h0 : 0 ≤ e) (h1 : e ≤ 4611686018427387904) : InI (Int.tdiv e 65536) := by rw [Int.tdiv_eq_ediv_of_nonneg h0];exact ini (by omega) (by omega)
theorem nD_snoc {l : List Nat} {y : Nat} {e : Int} (h : e = (y : Int)) : l.map nD ++ [[.v (.int .i64 e)]] = (l ++ [y]).map nD := by rw [List.map_append,h];rfl
theorem nD_snoc2 {l : List Nat} {y z : Nat} {e f : Int} (h : e = (y : Int)) (h2 : f = (z : Int)) : l.map nD ++ [[.v (.int .i64 e)],[.v (.int .i64 f)]] = (l ++ [y,z]).map nD := by rw [List.map_append,h,h2];rfl
theorem of_lo {d : Nat} (h : d < 4294967296) : IntKind.i64.wrap (Int.tmod (d : Int) 65536) = ((d % 65536 : Nat) : Int) := by
 rw [tm_n rfl,InI.wrap ⟨by omega,by omega⟩]
theorem of_hi {d : Nat} (h : d < 4294967296) : IntKind.i64.wrap (IntKind.u32.wrap (Int.tdiv (d : Int) 65536)) = ((d / 65536 : Nat) : Int) := by
 rw [td_n rfl,show IntKind.u32.wrap ((d / 65536 : Nat) : Int) = ((d / 65536 : Nat) : Int) by
  simp only [IntKind.wrap,IntKind.signed,IntKind.bits,Bool.false_and,Bool.false_eq_true,if_false];omega,InI.wrap ⟨by omega,by omega⟩]
structure Of3 (l : List Nat) where
 k : Nat
 o : List Nat
 eq : V o = VL (l.take k)
 lo : o.length = 2 * k
 dg : Dg o
 le : k ≤ l.length
def Of3.next {l : List Nat} (x : Of3 l) (hl : Lg l) (h : x.k < l.length) : Of3 l := ⟨x.k + 1,x.o ++ [l.getD x.k 0 % 65536,l.getD x.k 0 / 65536],by rw [yP h];exact of_step x.eq x.lo h,by simp [x.lo];omega,by rw [yP h];exact of_Dg x.dg (hl.at h),h⟩
structure Sm3 (n : Nat) where
 m : Nat
 o : List Nat
 eq : o ++ dig m = dig n
 le : m ≤ n
def Sm3.next {n : Nat} (x : Sm3 n) (h : x.m ≠ 0) : Sm3 n := ⟨x.m / 65536,x.o ++ [x.m % 65536],by rw [← x.eq,dig_pos h,List.append_assoc];rfl,by have := x.le;omega⟩
theorem Sm3.len {n : Nat} (x : Sm3 n) (h : n < 18446744073709551616) : x.o.length ≤ 4 := by
 have h1 : (dig n).length ≤ 4 := qH (k := 4) (by omega);rw [← x.eq,List.length_append] at h1;omega
structure Cp3 (a b : Nat) where
 k : Nat
 le : k ≤ (dig a).length
 eq : (dig a).drop k = (dig b).drop k
def Cp3.next {a b : Nat} (x : Cp3 a b) (hl : (dig a).length = (dig b).length) (h : 0 < x.k) (he : (dig a).getD (x.k - 1) 0 = (dig b).getD (x.k - 1) 0) : Cp3 a b := ⟨x.k - 1,by have := x.le;omega,by
 have h1 := x.le;rw [getD_lt (by omega),getD_lt (by omega)] at he;rw [List.drop_eq_getElem_cons (by omega),List.drop_eq_getElem_cons (l := dig b) (by omega),he,show x.k - 1 + 1 = x.k by omega,x.eq]⟩
theorem cp_lt {a b k : Nat} (hl : (dig a).length = (dig b).length) (hk : 0 < k) (hk2 : k ≤ (dig a).length) (hd : (dig a).drop k = (dig b).drop k) (h : (dig a).getD (k - 1) 0 < (dig b).getD (k - 1) 0) : a < b := by
 rw [getD_lt (by omega),getD_lt (by omega)] at h;have := lt_at (dig_Dg a) hl (i := k - 1) (by omega) (by rw [show k - 1 + 1 = k by omega];exact hd) h
 rwa [V_dig,V_dig] at this
theorem cmp_lt {a b : Nat} (h : a < b) : cmpN a b = -1 := if_pos h
theorem cmp_gt {a b : Nat} (h : b < a) : cmpN a b = 1 := by rw [cmpN,if_neg (by omega),if_pos h]
theorem cmp_eq {a b : Nat} (h : a = b) : cmpN a b = 0 := by rw [cmpN,if_neg (by omega),if_neg (by omega)]
structure Pl3 (a b : Nat) where
 k : Nat
 c : Nat
 o : List Nat
 eq : V o + c * 65536 ^ k = V ((dig a).take k) + V ((dig b).take k)
 lo : o.length = k
 dg : Dg o
 hc : c ≤ 1
 le : k ≤ (dig a).length + (dig b).length + 1
def Pl3.s {a b : Nat} (x : Pl3 a b) : Nat := x.c + (dig a).getD x.k 0 + (dig b).getD x.k 0
def Pl3.next {a b : Nat} (x : Pl3 a b) (h : x.k < (dig a).length ∨ x.k < (dig b).length ∨ 0 < x.c) : Pl3 a b := ⟨x.k + 1,x.s / 65536,x.o ++ [x.s % 65536],plus_step x.eq x.lo rfl,by simp [x.lo],x.dg.snoc (Nat.mod_lt _ (by decide)),by
 have h1 := dig_at a x.k;have h2 := dig_at b x.k;have h3 := x.hc;unfold Pl3.s;omega,by
 rcases h with h | h | h
 ·omega
 ·omega
 ·have := plus_in (dig_Dg a) (dig_Dg b) x.eq h;omega⟩
theorem Pl3.fin {a b : Nat} (x : Pl3 a b) (h1 : (dig a).length ≤ x.k) (h2 : (dig b).length ≤ x.k) (h3 : x.c = 0) : V x.o = a + b := by
 have := plus_done (by rw [← h3];exact x.eq) h1 h2
 rwa [V_dig,V_dig] at this
structure Mi3 (a b : Nat) where
 k : Nat
 c : Nat
 o : List Nat
 eq : V o + V ((dig b).take k) = V ((dig a).take k) + c * 65536 ^ k
 lo : o.length = k
 dg : Dg o
 hc : c ≤ 1
 le : k ≤ (dig a).length
def Mi3.next {a b : Nat} (x : Mi3 a b) (h : x.k < (dig a).length) (y d : Nat) (hy : y + (dig b).getD x.k 0 + x.c = (dig a).getD x.k 0 + 65536 * d) (h2 : y < 65536) (h3 : d ≤ 1) : Mi3 a b := ⟨x.k + 1,d,x.o ++ [y],minus_step x.eq x.lo h (by rw [← getD_lt h];exact hy),by simp [x.lo],x.dg.snoc h2,h3,h⟩
theorem Mi3.fin {a b : Nat} (x : Mi3 a b) (h : (dig a).length ≤ x.k) (hle : b ≤ a) : V x.o = a - b := by
 have hk := x.le;have e : x.k = (dig a).length := by omega
 have h1 := x.eq;rw [e] at h1;have := minus_done x.dg (by rw [x.lo,e]) h1 (by rw [V_dig,V_dig];exact hle) (yY hle)
 rwa [V_dig,V_dig] at this
theorem Of3_ok (l : List Nat) (hg : Lg l) (hl : l.length ≤ 100000000) : Fn Tryz.prog 105 [usD l] (natD (VL l)) := by
 refine yD tabT Tryz.func105 rfl rfl rfl rfl rfl rfl ?_;intro w0 s0 mx;refine ev_R tabT [] 100 ?_;refine ev_R tabT [] 200 ?_;refine yO 3 3 1 rfl ?_;refine zB ?_;refine ev_R tabT [] 300 ?_;refine zM ?_;refine zX (ι := Of3 l) [0] [] 350 (fun x => [(4,.v (.int .i64 (x.k : Nat))),(3,.own 200 1 (x.o.map nD))]) (fun x => [(200,.row 3 1 (x.o.map nD).length)]) (fun x => l.length - x.k) ⟨0,[],by simp [VL,V],rfl,Dg.nil,Nat.zero_le _⟩ ?_;refine ⟨⟨le_t,le_o,rfl,rfl⟩,fun x => ?_⟩;have hk := x.le;have hk2 := x.lo;refine zB ?_;refine ev_R tabT [] 400 ?_;refine zT (fun c3 => ?_) (fun c3 => ?_)
 ·
  refine zK (zA ?_);refine zB ?_;refine zM ?_;refine zZ tabT [] [[],[],[],[1,2],[1,2,3],[1,2,3,4],[1,2,3,4,5],[],[],[7,8],[7,8,9],[7,8,9,10],[7,8,9,10,11],[1,2,3,4,5,6,7,8,9,10,11,12],[0,1,2,3,4,5,6,7,8,9,10,11,12,13],[0,1,2,3,4,5,6,7,8,9,10,11,12,13,14]] 600 mixT (by kernel_rfl) rfl ?_;refine zF ?_;refine zC (zJ (zA ?_));refine ev_Q tabT [] 700 ?_;have hx := yP c3;have hx2 := hg.at c3;exact zQ (x.next hg c3) ⟨(by first | exact trivial | (repeat (first | exact trivial | exact Sub.refl _ | refine ⟨?_,?_⟩ | exact Sub.int (by first | rfl | omega | (push_cast;omega)) | exact Sub.nilSl | exact Sub.own rfl | exact Sub.slrSl rfl | exact Sub.ownSl (List.map_append).symm | exact Sub.ownSl rfl | exact Sub.int (by show (x.k : Int) + 1 = ((x.k + 1 : Nat) : Int);omega) | exact Sub.own (nD_snoc2 (of_lo (by rw [Int.toNat_natCast,hx];exact hx2)) (of_hi (by rw [Int.toNat_natCast,hx];exact hx2)))))),(by repeat (first | exact trivial | exact SubO.same rfl | exact ⟨rfl,rfl,by show _ = (List.map nD (x.o ++ _)).length;simp⟩ | refine ⟨?_,?_⟩)),rfl,rfl⟩ (by show l.length - (x.k + 1) < l.length - x.k;omega)
 ·
  refine yB (zU (zW (zS (zA ?_))));refine yN [] [] 410 [(3,.sl false 1 x.o nD 0)] [] ?_;refine ⟨⟨⟨Sub.ownSl rfl,trivial⟩,le_o,rfl,rfl⟩,?_⟩;refine zB (zE tabT [] 700 rfl ?_);refine zF ?_;refine zO _ (trim_ok _ x.dg (by rw [hk2];omega)) rfl ?_;refine zF ?_;refine zC (zA (zL ?_));exact FinV.ret rfl (SubP.of_eq (by rw [x.eq,List.take_of_length_le (by omega)]))
theorem Small3_ok (n : Int) (h1 : 0 ≤ n) (h2 : n ≤ 9223372036854775807) : Fn Tryz.prog 106 [.v (.int .i64 n)] (natD n.toNat) := by
 refine yD tabT Tryz.func106 rfl rfl rfl rfl rfl rfl ?_;intro w0 s0 mx;refine ev_R tabT [] 100 ?_;refine ev_R tabT [] 200 ?_;refine yO 3 3 1 rfl ?_;refine zB ?_;refine zM ?_;refine zX (ι := Sm3 n.toNat) [] [] 250 (fun x => [(0,.v (.int .i64 (x.m : Nat))),(3,.own 200 1 (x.o.map nD))]) (fun x => [(200,.row 3 1 (x.o.map nD).length)]) (fun x => x.m) ⟨n.toNat,[],rfl,Nat.le_refl _⟩ ?_;refine ⟨⟨(by first | exact trivial | (repeat (first | exact trivial | exact Sub.refl _ | refine ⟨?_,?_⟩ | exact Sub.int (by first | rfl | omega | (push_cast;omega)) | exact Sub.nilSl | exact Sub.own rfl | exact Sub.slrSl rfl | exact Sub.ownSl (List.map_append).symm | exact Sub.ownSl rfl | exact Sub.int (Int.toNat_of_nonneg h1).symm))),le_o,rfl,rfl⟩,fun x => ?_⟩;have hk := x.le;have hk2 := x.len (by omega);refine zB ?_;refine ev_R tabT [] 300 ?_;refine zT (fun c2 => ?_) (fun c2 => ?_)
 ·
  refine zK (zA ?_);refine zB ?_;refine zM ?_;refine ev_Q tabT [] 500 ?_;refine zJ (zA ?_);refine zE tabT [] 600 rfl ?_;repeat (first | refine zG ?_ | refine zH ?_ | refine zR (by first | (refine ⟨by decide,?_⟩;rw [td_n rfl];exact ini (by omega) (by omega)) | (rw [td_n rfl];exact ini (by omega) (by omega)) | first | exact trivial | omega | exact ini (by omega) (by omega) | (intro hh;simp at hh;exact ini (by omega) (by omega)) | (intro hh;simp at hh ⊢;omega) | (simp at *;omega) | (simp_all;done)) ?_)
  refine zC ?_;exact zQ (x.next (by omega)) ⟨(by first | exact trivial | (repeat (first | exact trivial | exact Sub.refl _ | refine ⟨?_,?_⟩ | exact Sub.int (by first | rfl | omega | (push_cast;omega)) | exact Sub.nilSl | exact Sub.own rfl | exact Sub.slrSl rfl | exact Sub.ownSl (List.map_append).symm | exact Sub.ownSl rfl | exact Sub.int (td_n rfl) | exact Sub.own (nD_snoc (tm_n rfl))))),(by repeat (first | exact trivial | exact SubO.same rfl | exact ⟨rfl,rfl,by show _ = (List.map nD (x.o ++ _)).length;simp⟩ | refine ⟨?_,?_⟩)),rfl,rfl⟩ (by show x.m / 65536 < x.m;omega)
 ·
  refine yB (zU (zW (zS (zA ?_))));refine ev_R tabT [] 600 ?_;refine zL ?_;exact FinV.ret rfl (SubP.ownSl (by have h0 := x.eq;rw [show x.m = 0 by omega,qG,List.append_nil] at h0;rw [h0]))
theorem Compare3_ok (a b : Nat) (ha : (dig a).length ≤ 100000000) (hb : (dig b).length ≤ 100000000) : Fn Tryz.prog 103 [natD a,natD b] (.v (.int .i64 (cmpN a b))) := by
 refine yD tabT Tryz.func103 rfl rfl rfl rfl rfl rfl ?_;intro w0 s0 mx;refine ev_R tabT [] 100 ?_;refine zB ?_;refine ev_R tabT [] 200 ?_;refine zT (fun c1 => ?_) (fun c1 => ?_)
 ·
  refine zB ?_;refine ev_R tabT [] 300 ?_;refine zT (fun c2 => ?_) (fun c2 => ?_)
  ·
   refine ev_R tabT [] 400 ?_;refine zL (zN (zN ?_));exact FinV.ret rfl (SubP.int (cmp_lt (dig_len_lt (by omega))).symm)
  ·
   refine zK (zA ?_);refine ev_R tabT [] 500 ?_;refine zL (zN ?_);exact FinV.ret rfl (SubP.int (cmp_gt (dig_len_lt (by omega))).symm)
 ·
  refine zK (zA ?_);refine zB ?_;refine ev_R tabT [] 600 ?_;refine zM ?_;refine zX (ι := Cp3 a b) [0,1] [] 650 (fun x => [(5,.v (.int .i64 ((x.k : Int) - 1)))]) (fun _ => []) (fun x => x.k) ⟨(dig a).length,Nat.le_refl _,by rw [List.drop_of_length_le (Nat.le_refl _),List.drop_of_length_le (by omega)]⟩ ?_;refine ⟨⟨le_t,le_o,rfl,rfl⟩,fun x => ?_⟩;have hk := x.le;have hkt : ((x.k : Int) - 1).toNat = x.k - 1 := by omega
  refine zB ?_;refine ev_R tabT [] 700 ?_;refine zT (fun c6 => ?_) (fun c6 => ?_)
  ·
   refine zK (zA ?_);refine zB ?_;refine zM ?_;refine zB ?_;refine zB (zZ tabT [] [[],[],[0,1],[0,1,2],[],[],[4,5],[4,5,6],[0,1,2,3,4,5,6,7]] 900 mixT (by kernel_rfl) rfl ?_);refine zF ?_;refine zC (zA ?_);refine zT (fun c8 => ?_) (fun c8 => ?_)
   ·
    refine ev_R tabT [] 1000 ?_;refine zL (zN (zP (zN (yG (zP (zN ?_))))));rw [hkt] at c8;exact FinV.ret rfl (SubP.int (cmp_lt (cp_lt (by omega) (by omega) hk x.eq (by omega))).symm)
   ·
    refine zK (zA ?_);refine zB (zZ tabT [] [[],[],[0,1],[0,1,2],[],[],[4,5],[4,5,6],[0,1,2,3,4,5,6,7]] 1100 mixT (by kernel_rfl) rfl ?_);refine zF ?_;refine zC (zA ?_);refine zT (fun c10 => ?_) (fun c10 => ?_)
    ·
     refine ev_R tabT [] 1200 ?_;refine zL (zP (zN (yG (zP (zN ?_)))));rw [hkt] at c10;exact FinV.ret rfl (SubP.int (cmp_gt (cp_lt (by omega) (by omega) (by omega) x.eq.symm (by omega))).symm)
    ·
     refine zK (zJ (zA ?_));refine ev_Q tabT [] 1200 ?_;rw [hkt] at c8 c10;exact zQ (x.next (by omega) (by omega) (by omega)) ⟨(by first | exact trivial | (repeat (first | exact trivial | exact Sub.refl _ | refine ⟨?_,?_⟩ | exact Sub.int (by first | rfl | omega | (push_cast;omega)) | exact Sub.nilSl | exact Sub.own rfl | exact Sub.slrSl rfl | exact Sub.ownSl (List.map_append).symm | exact Sub.ownSl rfl | exact Sub.int (by show (x.k : Int) - 1 - 1 = ((x.k - 1 : Nat) : Int) - 1;omega)))),le_o,rfl,rfl⟩ (by show x.k - 1 < x.k;omega)
  ·
   refine yB (zU (zW (zS (zA ?_))));refine ev_R tabT [] 1300 ?_;refine zL ?_;have hz : x.k = 0 := by omega
   have he := x.eq;rw [hz] at he;exact FinV.ret rfl (SubP.int (cmp_eq (by have := congrArg V he;rwa [List.drop_zero,List.drop_zero,V_dig,V_dig] at this)).symm)
theorem sn221 {P : Program} {K : DS → Prop} {p : Prop} {r : Out} (hr : r.sat P K) (hp : p := by first | exact trivial | omega | exact ini (by omega) (by omega) | (intro hh;simp at hh;exact ini (by omega) (by omega)) | (intro hh;simp at hh ⊢;omega) | (simp at *;omega) | (simp_all;done) | (simp only [Int.toNat_natCast];exact ini (by omega) (by omega))) : (Out.need p r).sat P K := ⟨hp,hr⟩
theorem sn222 {P : Program} {K : DS → Prop} {p : Prop} {r : Out} (hr : r.sat P K) (hp : p := by first | exact ⟨by decide,td_in (by (try simp only [Int.toNat_natCast]);omega) (by (try simp only [Int.toNat_natCast]);omega)⟩ | exact td_in (by (try simp only [Int.toNat_natCast]);omega) (by (try simp only [Int.toNat_natCast]);omega) | first | exact trivial | omega | exact ini (by omega) (by omega) | (intro hh;simp at hh;exact ini (by omega) (by omega)) | (intro hh;simp at hh ⊢;omega) | (simp at *;omega) | (simp_all;done)) : (Out.need p r).sat P K := ⟨hp,hr⟩
theorem Plus3_ok (a b : Nat) (ha : (dig a).length ≤ 100000000) (hb : (dig b).length ≤ 100000000) : Fn Tryz.prog 130 [natD a,natD b] (natD (a + b)) := by
 refine yD tabT Tryz.func130 rfl rfl rfl rfl rfl rfl ?_;intro w0 s0 mx;refine ev_R tabT [] 100 ?_;refine ev_R tabT [] 200 ?_;refine yO 5 3 1 rfl ?_;refine ev_R tabT [] 300 ?_;refine zB ?_;refine ev_R tabT [] 400 ?_;refine zM ?_;refine zX (ι := Pl3 a b) [0,1] [] 450 (fun x => [(7,.v (.int .i64 (x.k : Nat))),(6,.v (.int .i64 (x.c : Nat))),(5,.own 200 1 (x.o.map nD))]) (fun x => [(200,.row 3 1 (x.o.map nD).length)]) (fun x => (dig a).length + (dig b).length + 2 - x.k) ⟨0,0,[],by simp [V],rfl,Dg.nil,by omega,by omega⟩ ?_;refine ⟨⟨le_t,le_o,rfl,rfl⟩,fun x => ?_⟩;have hk := x.le;have hk2 := x.lo;have hk3 := x.hc;have hk4 := dig_at a x.k;have hk5 := dig_at b x.k;refine zB ?_;refine ev_R tabT [] 500 ?_;refine zT (fun c4 => ?_) (fun c4 => ?_)
 ·
  refine zK (zA ?_);refine zB ?_;refine zM ?_;refine zB ?_;refine ev_R tabT [] 700 ?_;refine zT (fun c6 => ?_) (fun c6 => ?_)
  ·
   refine zE tabT [] 800 rfl ?_;repeat (first | refine zG ?_ | refine zH ?_ | refine sn221 ?_)
   refine zC (zA ?_);refine zB ?_;refine ev_R tabT [] 900 ?_;refine zT (fun c8 => ?_) (fun c8 => ?_)
   ·
    refine zE tabT [] 1000 rfl ?_;repeat (first | refine zG ?_ | refine zH ?_ | refine sn221 ?_)
    refine zC (zA ?_);refine ev_R tabT [] 1100 ?_;refine zE tabT [] 1200 rfl ?_;repeat (first | refine zG ?_ | refine zH ?_ | refine sn222 ?_)
    refine zC (zJ (zA ?_));refine ev_Q tabT [] 1300 ?_;exact zQ (x.next (by omega)) ⟨(by first | exact trivial | (repeat (first | exact trivial | exact Sub.refl _ | refine ⟨?_,?_⟩ | exact Sub.int (by first | rfl | omega | (push_cast;omega)) | exact Sub.nilSl | exact Sub.own rfl | exact Sub.slrSl rfl | exact Sub.ownSl (List.map_append).symm | exact Sub.ownSl rfl | exact Sub.int (by show (x.k : Int) + 1 = ((x.k + 1 : Nat) : Int);omega) | exact Sub.int (td_n (by show _ = ((x.c + (dig a).getD x.k 0 + (dig b).getD x.k 0 : Nat) : Int);(try simp only [Int.toNat_natCast]);omega)) | exact Sub.own (nD_snoc (tm_n (by show _ = ((x.c + (dig a).getD x.k 0 + (dig b).getD x.k 0 : Nat) : Int);(try simp only [Int.toNat_natCast]);omega)))))),(by repeat (first | exact trivial | exact SubO.same rfl | exact ⟨rfl,rfl,by show _ = (List.map nD (x.o ++ _)).length;simp⟩ | refine ⟨?_,?_⟩)),rfl,rfl⟩ (by show (dig a).length + (dig b).length + 2 - (x.k + 1) < (dig a).length + (dig b).length + 2 - x.k;omega)
   ·
    refine zK (zA ?_);refine ev_R tabT [] 1100 ?_;refine zE tabT [] 1200 rfl ?_;repeat (first | refine zG ?_ | refine zH ?_ | refine sn222 ?_)
    refine zC (zJ (zA ?_));refine ev_Q tabT [] 1300 ?_;have zb : (dig b).getD x.k 0 = 0 := getD_ge (by omega);exact zQ (x.next (by omega)) ⟨(by first | exact trivial | (repeat (first | exact trivial | exact Sub.refl _ | refine ⟨?_,?_⟩ | exact Sub.int (by first | rfl | omega | (push_cast;omega)) | exact Sub.nilSl | exact Sub.own rfl | exact Sub.slrSl rfl | exact Sub.ownSl (List.map_append).symm | exact Sub.ownSl rfl | exact Sub.int (by show (x.k : Int) + 1 = ((x.k + 1 : Nat) : Int);omega) | exact Sub.int (td_n (by show _ = ((x.c + (dig a).getD x.k 0 + (dig b).getD x.k 0 : Nat) : Int);(try simp only [Int.toNat_natCast]);omega)) | exact Sub.own (nD_snoc (tm_n (by show _ = ((x.c + (dig a).getD x.k 0 + (dig b).getD x.k 0 : Nat) : Int);(try simp only [Int.toNat_natCast]);omega)))))),(by repeat (first | exact trivial | exact SubO.same rfl | exact ⟨rfl,rfl,by show _ = (List.map nD (x.o ++ _)).length;simp⟩ | refine ⟨?_,?_⟩)),rfl,rfl⟩ (by show (dig a).length + (dig b).length + 2 - (x.k + 1) < (dig a).length + (dig b).length + 2 - x.k;omega)
  ·
   refine zK (zA ?_);refine zB ?_;refine ev_R tabT [] 900 ?_;refine zT (fun c8 => ?_) (fun c8 => ?_)
   ·
    refine zE tabT [] 1000 rfl ?_;repeat (first | refine zG ?_ | refine zH ?_ | refine sn221 ?_)
    refine zC (zA ?_);refine ev_R tabT [] 1100 ?_;refine zE tabT [] 1200 rfl ?_;repeat (first | refine zG ?_ | refine zH ?_ | refine sn222 ?_)
    refine zC (zJ (zA ?_));refine ev_Q tabT [] 1300 ?_;have za : (dig a).getD x.k 0 = 0 := getD_ge (by omega);exact zQ (x.next (by omega)) ⟨(by first | exact trivial | (repeat (first | exact trivial | exact Sub.refl _ | refine ⟨?_,?_⟩ | exact Sub.int (by first | rfl | omega | (push_cast;omega)) | exact Sub.nilSl | exact Sub.own rfl | exact Sub.slrSl rfl | exact Sub.ownSl (List.map_append).symm | exact Sub.ownSl rfl | exact Sub.int (by show (x.k : Int) + 1 = ((x.k + 1 : Nat) : Int);omega) | exact Sub.int (td_n (by show _ = ((x.c + (dig a).getD x.k 0 + (dig b).getD x.k 0 : Nat) : Int);(try simp only [Int.toNat_natCast]);omega)) | exact Sub.own (nD_snoc (tm_n (by show _ = ((x.c + (dig a).getD x.k 0 + (dig b).getD x.k 0 : Nat) : Int);(try simp only [Int.toNat_natCast]);omega)))))),(by repeat (first | exact trivial | exact SubO.same rfl | exact ⟨rfl,rfl,by show _ = (List.map nD (x.o ++ _)).length;simp⟩ | refine ⟨?_,?_⟩)),rfl,rfl⟩ (by show (dig a).length + (dig b).length + 2 - (x.k + 1) < (dig a).length + (dig b).length + 2 - x.k;omega)
   ·
    refine zK (zA ?_);refine ev_R tabT [] 1100 ?_;refine zE tabT [] 1200 rfl ?_;repeat (first | refine zG ?_ | refine zH ?_ | refine sn222 ?_)
    refine zC (zJ (zA ?_));refine ev_Q tabT [] 1300 ?_;have za : (dig a).getD x.k 0 = 0 := getD_ge (by omega);have zb : (dig b).getD x.k 0 = 0 := getD_ge (by omega);exact zQ (x.next (by omega)) ⟨(by first | exact trivial | (repeat (first | exact trivial | exact Sub.refl _ | refine ⟨?_,?_⟩ | exact Sub.int (by first | rfl | omega | (push_cast;omega)) | exact Sub.nilSl | exact Sub.own rfl | exact Sub.slrSl rfl | exact Sub.ownSl (List.map_append).symm | exact Sub.ownSl rfl | exact Sub.int (by show (x.k : Int) + 1 = ((x.k + 1 : Nat) : Int);omega) | exact Sub.int (td_n (by show _ = ((x.c + (dig a).getD x.k 0 + (dig b).getD x.k 0 : Nat) : Int);(try simp only [Int.toNat_natCast]);omega)) | exact Sub.own (nD_snoc (tm_n (by show _ = ((x.c + (dig a).getD x.k 0 + (dig b).getD x.k 0 : Nat) : Int);(try simp only [Int.toNat_natCast]);omega)))))),(by repeat (first | exact trivial | exact SubO.same rfl | exact ⟨rfl,rfl,by show _ = (List.map nD (x.o ++ _)).length;simp⟩ | refine ⟨?_,?_⟩)),rfl,rfl⟩ (by show (dig a).length + (dig b).length + 2 - (x.k + 1) < (dig a).length + (dig b).length + 2 - x.k;omega)
 ·
  refine yB (zU (zW (zS (zA ?_))));refine yN [] [] 510 [(5,.sl false 1 x.o nD 0)] [] ?_;refine ⟨⟨⟨Sub.ownSl rfl,trivial⟩,le_o,rfl,rfl⟩,?_⟩;refine zB (zE tabT [] 1300 rfl ?_);refine zF ?_;refine zO _ (trim_ok _ x.dg (by rw [hk2];omega)) rfl ?_;refine zF ?_;refine zC (zA (zL ?_));exact FinV.ret rfl (SubP.of_eq (by rw [x.fin (by omega) (by omega) (by omega)]))
theorem sn223 {P : Program} {K : DS → Prop} {p : Prop} {r : Out} (hr : r.sat P K) (hp : p := by first | exact trivial | omega | exact ini (by omega) (by omega) | (intro hh;simp at hh;exact ini (by omega) (by omega)) | (intro hh;simp at hh ⊢;omega) | (simp at *;omega) | (simp_all;done) | (simp only [Int.toNat_natCast] at *;exact ini (by omega) (by omega))) : (Out.need p r).sat P K := ⟨hp,hr⟩
theorem Minus3_ok (a b : Nat) (hle : b ≤ a) (ha : (dig a).length ≤ 100000000) : Fn Tryz.prog 129 [natD a,natD b] (natD (a - b)) := by
 refine yD tabT Tryz.func129 rfl rfl rfl rfl rfl rfl ?_;intro w0 s0 mx;refine ev_R tabT [] 100 ?_;refine ev_R tabT [] 200 ?_;refine yO 5 3 1 rfl ?_;refine ev_R tabT [] 300 ?_;refine zB ?_;refine ev_R tabT [] 400 ?_;refine zM ?_;refine zX (ι := Mi3 a b) [0,1] [] 450 (fun x => [(7,.v (.int .i64 (x.k : Nat))),(6,.v (.int .i64 (x.c : Nat))),(5,.own 200 1 (x.o.map nD))]) (fun x => [(200,.row 3 1 (x.o.map nD).length)]) (fun x => (dig a).length - x.k) ⟨0,0,[],by simp [V],rfl,Dg.nil,by omega,by omega⟩ ?_;refine ⟨⟨le_t,le_o,rfl,rfl⟩,fun x => ?_⟩;have hk := x.le;have hk2 := x.lo;have hk3 := x.hc;have hk4 := dig_at a x.k;have hk5 := dig_at b x.k;refine zB ?_;refine ev_R tabT [] 500 ?_;refine zT (fun c4 => ?_) (fun c4 => ?_)
 ·
  refine zK (zA ?_);refine zB ?_;refine zM ?_;refine zB (zE tabT [] 700 rfl ?_);repeat (first | refine zG ?_ | refine zH ?_ | refine sn221 ?_)
  refine zC (zA ?_);refine zB ?_;refine ev_R tabT [] 800 ?_;refine zT (fun c7 => ?_) (fun c7 => ?_)
  ·
   refine zE tabT [] 900 rfl ?_;repeat (first | refine zG ?_ | refine zH ?_ | refine sn221 ?_)
   refine zC (zA ?_);refine ev_R tabT [] 1000 ?_;refine zB ?_;refine ev_R tabT [] 1100 ?_;refine zT (fun c10 => ?_) (fun c10 => ?_)
   ·
    refine zB (zE tabT [] 1200 rfl ?_);repeat (first | refine zG ?_ | refine zH ?_ | refine sn223 ?_)
    refine zC (zA ?_);refine ev_Q tabT [] 1300 ?_;refine zA ?_;refine ev_Q tabT [] 1400 ?_;refine zJ (zA ?_);refine ev_Q tabT [] 1500 ?_;try simp only [Int.toNat_natCast] at c10
    exact zQ (x.next (by omega) ((dig a).getD x.k 0 + 65536 - x.c - (dig b).getD x.k 0) 1 (by omega) (by omega) (by omega)) ⟨(by first | exact trivial | (repeat (first | exact trivial | exact Sub.refl _ | refine ⟨?_,?_⟩ | exact Sub.int (by first | rfl | omega | (push_cast;omega)) | exact Sub.nilSl | exact Sub.own rfl | exact Sub.slrSl rfl | exact Sub.ownSl (List.map_append).symm | exact Sub.ownSl rfl | exact Sub.int (by show (x.k : Int) + 1 = ((x.k + 1 : Nat) : Int);omega) | exact Sub.own (nD_snoc (by (try simp only [Int.toNat_natCast]);omega))))),(by repeat (first | exact trivial | exact SubO.same rfl | exact ⟨rfl,rfl,by show _ = (List.map nD (x.o ++ _)).length;simp⟩ | refine ⟨?_,?_⟩)),rfl,rfl⟩ (by show (dig a).length - (x.k + 1) < (dig a).length - x.k;omega)
   ·
    refine zK (zA ?_);refine ev_Q tabT [] 1400 ?_;refine zJ (zA ?_);refine ev_Q tabT [] 1500 ?_;try simp only [Int.toNat_natCast] at c10
    exact zQ (x.next (by omega) ((dig a).getD x.k 0 + 0 - x.c - (dig b).getD x.k 0) 0 (by omega) (by omega) (by omega)) ⟨(by first | exact trivial | (repeat (first | exact trivial | exact Sub.refl _ | refine ⟨?_,?_⟩ | exact Sub.int (by first | rfl | omega | (push_cast;omega)) | exact Sub.nilSl | exact Sub.own rfl | exact Sub.slrSl rfl | exact Sub.ownSl (List.map_append).symm | exact Sub.ownSl rfl | exact Sub.int (by show (x.k : Int) + 1 = ((x.k + 1 : Nat) : Int);omega) | exact Sub.own (nD_snoc (by (try simp only [Int.toNat_natCast]);omega))))),(by repeat (first | exact trivial | exact SubO.same rfl | exact ⟨rfl,rfl,by show _ = (List.map nD (x.o ++ _)).length;simp⟩ | refine ⟨?_,?_⟩)),rfl,rfl⟩ (by show (dig a).length - (x.k + 1) < (dig a).length - x.k;omega)
  ·
   refine zK (zA ?_);refine ev_R tabT [] 1000 ?_;refine zB ?_;refine ev_R tabT [] 1100 ?_;refine zT (fun c10 => ?_) (fun c10 => ?_)
   ·
    refine zB (zE tabT [] 1200 rfl ?_);repeat (first | refine zG ?_ | refine zH ?_ | refine sn223 ?_)
    refine zC (zA ?_);refine ev_Q tabT [] 1300 ?_;refine zA ?_;refine ev_Q tabT [] 1400 ?_;refine zJ (zA ?_);refine ev_Q tabT [] 1500 ?_;try simp only [Int.toNat_natCast] at c10
    have zb : (dig b).getD x.k 0 = 0 := getD_ge (by omega);exact zQ (x.next (by omega) ((dig a).getD x.k 0 + 65536 - x.c - (dig b).getD x.k 0) 1 (by omega) (by omega) (by omega)) ⟨(by first | exact trivial | (repeat (first | exact trivial | exact Sub.refl _ | refine ⟨?_,?_⟩ | exact Sub.int (by first | rfl | omega | (push_cast;omega)) | exact Sub.nilSl | exact Sub.own rfl | exact Sub.slrSl rfl | exact Sub.ownSl (List.map_append).symm | exact Sub.ownSl rfl | exact Sub.int (by show (x.k : Int) + 1 = ((x.k + 1 : Nat) : Int);omega) | exact Sub.own (nD_snoc (by (try simp only [Int.toNat_natCast]);omega))))),(by repeat (first | exact trivial | exact SubO.same rfl | exact ⟨rfl,rfl,by show _ = (List.map nD (x.o ++ _)).length;simp⟩ | refine ⟨?_,?_⟩)),rfl,rfl⟩ (by show (dig a).length - (x.k + 1) < (dig a).length - x.k;omega)
   ·
    refine zK (zA ?_);refine ev_Q tabT [] 1400 ?_;refine zJ (zA ?_);refine ev_Q tabT [] 1500 ?_;try simp only [Int.toNat_natCast] at c10
    have zb : (dig b).getD x.k 0 = 0 := getD_ge (by omega);exact zQ (x.next (by omega) ((dig a).getD x.k 0 + 0 - x.c - (dig b).getD x.k 0) 0 (by omega) (by omega) (by omega)) ⟨(by first | exact trivial | (repeat (first | exact trivial | exact Sub.refl _ | refine ⟨?_,?_⟩ | exact Sub.int (by first | rfl | omega | (push_cast;omega)) | exact Sub.nilSl | exact Sub.own rfl | exact Sub.slrSl rfl | exact Sub.ownSl (List.map_append).symm | exact Sub.ownSl rfl | exact Sub.int (by show (x.k : Int) + 1 = ((x.k + 1 : Nat) : Int);omega) | exact Sub.own (nD_snoc (by (try simp only [Int.toNat_natCast]);omega))))),(by repeat (first | exact trivial | exact SubO.same rfl | exact ⟨rfl,rfl,by show _ = (List.map nD (x.o ++ _)).length;simp⟩ | refine ⟨?_,?_⟩)),rfl,rfl⟩ (by show (dig a).length - (x.k + 1) < (dig a).length - x.k;omega)
 ·
  refine yB (zU (zW (zS (zA ?_))));refine yN [] [] 510 [(5,.sl false 1 x.o nD 0)] [] ?_;refine ⟨⟨⟨Sub.ownSl rfl,trivial⟩,le_o,rfl,rfl⟩,?_⟩;refine zB (zE tabT [] 1500 rfl ?_);refine zF ?_;refine zO _ (trim_ok _ x.dg (by rw [hk2];omega)) rfl ?_;refine zF ?_;refine zC (zA (zL ?_));exact FinV.ret rfl (SubP.of_eq (by rw [x.fin (by omega) hle]))
end Go.Proofs.YtepamjmgancjoaaGreatDoor
