/- Part 22 of the proof. -/
import Derived.Test.YtbhndnphimmjjaaGreatDoorM21
namespace Go.Proofs.YtbhndnphimmjjaaGreatDoor
open Go.RowKit
variable {md me : Bool}
def txL (b : Bool) (a i : Nat) : List UInt8 := (if b = true then [45] else []) ++ ((hxL a).reverse.take i).map fun d => UInt8.ofNat (bAt alB d)
theorem hxL_ne {a : Nat} (h : ¬ hxL a = []) : ¬ a = 0 := by
 rintro rfl;exact h mK
theorem hxL_e {a : Nat} (h : hxL a = []) : a = 0 := by
 by_cases h0 : a = 0
 ·exact h0
 ·rw [yF0 h0] at h;cases h
theorem pT0 {b : Bool} {a : Nat} (h : ¬ a = 0) : hxS b a = ⟨(txL b a (hxL a).length).toArray⟩ := by
 unfold hxS txL;rw [if_neg h,List.take_of_length_le (by rw [List.length_reverse];exact Nat.le_refl _)]
theorem yS1 {a i : Nat} (h : i < (hxL a).length) : (hxL a).reverse.getD i 0 < 16 := by
 rw [List.getD_eq_getElem?_getD,List.getElem?_eq_getElem (by rw [List.length_reverse];exact h)];exact tU0 (n := a + 1) (x := a) (by omega) (List.mem_reverse.1 (List.getElem_mem _))
theorem u8_bAt (s : ByteArray) (d : Nat) : [D.v (.int .u8 ((bAt s d : Nat) : Int))] = u8D (UInt8.ofNat (bAt s d)) := by
 have h := bAt_lt s d;show _ = [D.v (.int .u8 (((UInt8.ofNat (bAt s d)).toNat : Nat) : Int))];have e : (UInt8.ofNat (bAt s d)).toNat = bAt s d := by simp;omega
 rw [e]
theorem mD0 (b : Bool) (a : Nat) {i : Nat} (h : i ≤ (hxL a).length) : (txL b a i).length ≤ i + 1 := by
 unfold txL;rw [List.length_append,List.length_map,List.length_take,List.length_reverse];have : (if b = true then [(45 : UInt8)] else []).length ≤ 1 := by split <;> decide
 omega
theorem zL0 {b : Bool} {a i : Nat} (h : i < (hxL a).length) : txL b a (i + 1) = txL b a i ++ [UInt8.ofNat (bAt alB ((hxL a).reverse.getD i 0))] := by
 unfold txL;rw [List.append_assoc,List.take_add_one,List.map_append,List.getElem?_eq_getElem (by rw [List.length_reverse];exact h),List.getD_eq_getElem?_getD,List.getElem?_eq_getElem (by rw [List.length_reverse];exact h)];rfl
theorem wO0 {b : Bool} {a i : Nat} (h : i < (hxL a).length) : (txL b a i).map u8D ++ [[D.v (.int .u8 ((bAt alB ((hxL a).reverse.getD i 0) : Nat) : Int))]] = (txL b a (i + 1)).map u8D := by
 rw [zL0 h,List.map_append,u8_bAt];rfl
theorem gW0 : alB.size = 36 := rfl
theorem yI1 {P : Program} {K : DS → Prop} {p : Prop} {r : Out} (hr : r.sat P K) (hp : p := by first | (refine ⟨by omega,?_⟩;show _ < 36;omega) | (simp only [List.length_map,List.length_reverse];omega) | (simp only [MR.len,List.length_map];done) | (rw [MR.len];omega) | (show _ < alB.size;rw [gW0];omega) | (rw [gW0];omega) | first | exact trivial | omega | exact ini (by omega) (by omega) | (intro hh;simp at hh;exact ini (by omega) (by omega)) | (intro hh;simp at hh ⊢;omega) | (simp at *;omega) | (simp_all;done)) : (Out.need p r).sat P K := ⟨hp,hr⟩
theorem yH1 {P : Program} {K : DS → Prop} {p : Prop} {r : Out} (hr : r.sat P K) (hp : p := by first | rfl | exact (congrArg (List.map u8D) (xJ _)).symm | first | exact trivial | omega | exact ini (by omega) (by omega) | (intro hh;simp at hh;exact ini (by omega) (by omega)) | (intro hh;simp at hh ⊢;omega) | (simp at *;omega) | (simp_all;done)) : (Out.need p r).sat P K := ⟨hp,hr⟩
theorem zC0 (b : Bool) (a : Nat) (ha : (dig a).length ≤ 10000000) : Fn Tryz.prog 172 [rD b a,.v (.int .i64 16)] (.v (.string (hxS b a))) := by
 have hxd := tT0 a;refine yL zM Tryz.func172 rfl rfl rfl rfl rfl rfl ?_;intro w0 s0 mx;refine zL 100 ?_;refine zB (zE zM [12] 200 rfl ?_);refine zF ?_;refine qZ _ _ _ (Figures3_ok a ha) ?_;refine zF ?_;refine zC (zA (zB (zL 300 ?_)));refine zS rfl (fun c2 => ?_) (fun c2 => ?_)
 ·have he : a = 0 := hxL_e (by simpa using c2);refine zL 400 ?_;refine zJ (zK ?_);exact FinV.ret rfl (SubP.str (by rw [he];rfl))
 ·have he : ¬ a = 0 := hxL_ne (by simpa using c2);refine zO (zA (zL 500 ?_));refine zB (zL 600 ?_);refine zY (fun c5 => ?_) (fun c5 => ?_)
  ·
   refine yT zM [] 700 ?_;refine zA ?_;refine zB (zE zM [1019] 800 rfl ?_);repeat (first | refine zG ?_ | refine zH ?_ | refine zU (by first | decide | first | exact trivial | omega | exact ini (by omega) (by omega) | (intro hh;simp at hh;exact ini (by omega) (by omega)) | (intro hh;simp at hh ⊢;omega) | (simp at *;omega) | (simp_all;done)) ?_)
   refine zC (zA (zB (zL 900 ?_)));refine zQ ?_;refine yC (ι := {i : Nat // i ≤ (hxL a).length}) [] [] 950 (fun x => [(8,.v (.int .i64 x.1)),(7,.mo 701 (txL b a x.1).length),(5,.sl false 1 (hxL a).reverse nD 0)]) (fun x => [(701,.mrow 5 1 (.map (txL b a x.1) u8D 0))]) (fun x => (hxL a).length - x.1) ⟨0,Nat.zero_le _⟩ ?_;refine ⟨⟨⟨Sub.int rfl,Sub.mo (by simp [txL,c5];try rfl),Sub.ownSl rfl,yH⟩,⟨SubO.mp (by simp [txL,c5];try rfl),yG⟩,rfl,rfl⟩,fun x => ?_⟩;have hk : x.1 ≤ (hxL a).length := x.2;have htl := mD0 b a hk;refine zB (zL 1000 ?_);refine zS rfl (fun c9 => ?_) (fun c9 => ?_)
   ·have hlt : x.1 < (hxL a).length := by simpa using c9
    have h16 : (hxL a).reverse.getD ((x.1 : Nat) : Int).toNat 0 < 16 := yS1 hlt;refine zO (zA (zB (zQ ?_)));refine zE zM [] 1200 rfl ?_;repeat (first | refine zG ?_ | refine zH ?_ | refine yI1 ?_)
    refine zC (zP (zA (yT zM [] 1300 ?_)));exact zW ⟨x.1 + 1,by omega⟩ ⟨⟨Sub.int (by push_cast;rfl),Sub.mo (by show (txL b a x.1).length + 1 = _;rw [zL0 hlt,List.length_append];rfl),Sub.refl _,yH⟩,⟨SubO.mr (wO0 hlt),yG⟩,rfl,rfl⟩ (by show (hxL a).length - (x.1 + 1) < (hxL a).length - x.1;omega)
   ·have hlt : x.1 = (hxL a).length := by simp at c9;omega
    refine yF (zZ (yB (zX (zA ?_))));refine vO 701 rfl (by repeat (first | exact trivial | exact rfl | refine ⟨?_,?_⟩)) (by repeat (first | exact trivial | refine ⟨?_,?_⟩)) ?_;refine zB (zE zM [] 1300 rfl ?_);repeat (first | refine zG ?_ | refine zH ?_ | refine yH1 ?_)
    refine zC (zA (zJ ?_));exact FinV.ret rfl (SubP.str (by rw [pT0 he,← congrArg (txL b a) hlt];exact congrArg (fun l : List UInt8 => (⟨l.toArray⟩ : ByteArray)) (xJ _)))
  ·
   refine zO (zA ?_);refine zB (zE zM [1019] 800 rfl ?_);repeat (first | refine zG ?_ | refine zH ?_ | refine zU (by first | decide | first | exact trivial | omega | exact ini (by omega) (by omega) | (intro hh;simp at hh;exact ini (by omega) (by omega)) | (intro hh;simp at hh ⊢;omega) | (simp at *;omega) | (simp_all;done)) ?_)
   refine zC (zA (zB (zL 900 ?_)));refine zQ ?_;refine yC (ι := {i : Nat // i ≤ (hxL a).length}) [] [] 950 (fun x => [(8,.v (.int .i64 x.1)),(7,.mo 601 (txL b a x.1).length),(5,.sl false 1 (hxL a).reverse nD 0)]) (fun x => [(601,.mrow 5 1 (.map (txL b a x.1) u8D 0))]) (fun x => (hxL a).length - x.1) ⟨0,Nat.zero_le _⟩ ?_;refine ⟨⟨⟨Sub.int rfl,Sub.mo (by simp [txL,c5];try rfl),Sub.ownSl rfl,yH⟩,⟨SubO.mp (by simp [txL,c5];try rfl),yG⟩,rfl,rfl⟩,fun x => ?_⟩;have hk : x.1 ≤ (hxL a).length := x.2;have htl := mD0 b a hk;refine zB (zL 1000 ?_);refine zS rfl (fun c9 => ?_) (fun c9 => ?_)
   ·have hlt : x.1 < (hxL a).length := by simpa using c9
    have h16 : (hxL a).reverse.getD ((x.1 : Nat) : Int).toNat 0 < 16 := yS1 hlt;refine zO (zA (zB (zQ ?_)));refine zE zM [] 1200 rfl ?_;repeat (first | refine zG ?_ | refine zH ?_ | refine yI1 ?_)
    refine zC (zP (zA (yT zM [] 1300 ?_)));exact zW ⟨x.1 + 1,by omega⟩ ⟨⟨Sub.int (by push_cast;rfl),Sub.mo (by show (txL b a x.1).length + 1 = _;rw [zL0 hlt,List.length_append];rfl),Sub.refl _,yH⟩,⟨SubO.mr (wO0 hlt),yG⟩,rfl,rfl⟩ (by show (hxL a).length - (x.1 + 1) < (hxL a).length - x.1;omega)
   ·have hlt : x.1 = (hxL a).length := by simp at c9;omega
    refine yF (zZ (yB (zX (zA ?_))));refine vO 601 rfl (by repeat (first | exact trivial | exact rfl | refine ⟨?_,?_⟩)) (by repeat (first | exact trivial | refine ⟨?_,?_⟩)) ?_;refine zB (zE zM [] 1300 rfl ?_);repeat (first | refine zG ?_ | refine zH ?_ | refine yH1 ?_)
    refine zC (zA (zJ ?_));exact FinV.ret rfl (SubP.str (by rw [pT0 he,← congrArg (txL b a) hlt];exact congrArg (fun l : List UInt8 => (⟨l.toArray⟩ : ByteArray)) (xJ _)))
variable {md me : Bool}
theorem yJ0 {α : Type} {b : Int} {N : Nat} {f : Skt → α → Skt} {c : α → Nat} {P : α → Prop} (d : α) (hf : ∀ k a,SkI b N k → P a → SkS b N k (f k a) (c a)) :
  ∀ {l : List α} {k : Skt} {i : Nat},SkI b N k → (∀ a ∈ l,P a) → i < l.length →
  SkI b N ((l.take i).foldl f k) ∧ ((l.take i).foldl f k).out.length + c (l.getD i d) ≤ k.out.length + (l.map c).sum ∧ P (l.getD i d) ∧ (l.take (i + 1)).foldl f k = f ((l.take i).foldl f k) (l.getD i d)
 | [],_,_,_,_,h => absurd h (Nat.not_lt_zero _)
 | a :: l,k,0,hk,hl,_ => by
  refine ⟨hk,?_,hl a List.mem_cons_self,rfl⟩;show k.out.length + c a ≤ k.out.length + ((a :: l).map c).sum;rw [List.map_cons,List.sum_cons];omega
 | a :: l,k,i + 1,hk,hl,h => by
  have hs := hf k a hk (hl a List.mem_cons_self);obtain ⟨h1,h2,h3,h4⟩ := yJ0 d hf (l := l) (k := f k a) (i := i) hs.inv (fun x hx => hl x (List.mem_cons_of_mem _ hx)) (by rw [List.length_cons] at h;omega);have h5 := hs.len;refine ⟨h1,?_,h3,h4⟩;show ((l.take i).foldl f (f k a)).out.length + c (l.getD i d) ≤ k.out.length + ((a :: l).map c).sum;rw [List.map_cons,List.sum_cons];omega
theorem vl_st {b : Int} {N : Nat} (hb : 0 ≤ b) (hN : N ≤ 1000000000) {l : List Vl} {k : Skt} {i : Nat} (hk : SkI b N k) (hl : ∀ a ∈ l,VlC N a) (hi : i < l.length) :
  SkI b N ((l.take i).foldl (Skt.v b) k) ∧ ((l.take i).foldl (Skt.v b) k).out.length + cV (l.getD i vl0) ≤ k.out.length + (l.map cV).sum ∧ VlC N (l.getD i vl0) ∧ (l.take (i + 1)).foldl (Skt.v b) k = ((l.take i).foldl (Skt.v b) k).v b (l.getD i vl0) :=
 yJ0 (b := b) (N := N) (f := Skt.v b) (c := cV) (P := VlC N) vl0 (fun _ _ h1 h2 => v_ok h1 hb hN h2) hk hl hi
theorem sB1 (n : UInt8) : (sB n).size = 1 := rfl
theorem lit1 (n : UInt8) : (⟨#[n]⟩ : ByteArray).size = 1 := rfl
theorem vF0 {P : Program} {K : DS → Prop} {p : Prop} {r : Out} (hr : r.sat P K) (hp : p := by first | (simp only [ByteArray.size_append,lit1];omega) | first | exact trivial | omega | exact ini (by omega) (by omega) | (intro hh;simp at hh;exact ini (by omega) (by omega)) | (intro hh;simp at hh ⊢;omega) | (simp at *;omega) | (simp_all;done)) : (Out.need p r).sat P K := ⟨hp,hr⟩
theorem skVal_G (h : List Ob) (b : Int) (k : Skt) (v : Vl) (hv : VlIn v) (hl : k.out.length + cV v ≤ 1073741824) (ho : k.ord.length ≤ 1000000000) : FnG Tryz.prog 154 [.bp 0 0,.agg (vlD v)] (skO md h b k) (.v (.tuple #[])) (skO md h b (k.v b v)) := by
 have hq := dO v.s;have hx1 := dR (b := v.nn) hv.nl;have hx2 := dR (b := v.dn) hv.dl;have hT := wM0 hv;have hs1 := hv.s;have hs2 := hv.nn;have hs3 := hv.dn;have hd1 := bA0 hv.nl;have hd2 := bA0 hv.dl;have hc : cV v = 60 + 10 * v.s.size + 8 * v.nl.length + 8 * v.dl.length := rfl;have e1 := (zC1 (k := k) hv.k1 hv.k2).1;have e2 := (zC1 (k := k.n v.k) hv.r1 hv.r2).1;refine jE zM Tryz.func154 rfl rfl rfl rfl rfl rfl rfl ?_;intro w0 s0 mx;refine zL 100 ?_;refine zB (zL 200 ?_);refine zY (fun c1 => ?_) (fun c1 => ?_)
 ·
  refine zB (zE zM [1010] 300 rfl ?_);refine zF ?_;refine yJ _ _ (kC h b k v.r hv.r1 hv.r2 (by omega) ho) rfl ?_;refine zF ?_;refine zC (zA (zJ (zK ?_)));rw [show k.v b v = k.see b v.r from if_pos c1];exact FinH.ret 3 rfl rfl (Sub.refl _) ⟨⟨rfl,Sub.refl _,rfl,Sub.refl _,rfl,Sub.refl _,rfl,Sub.refl _,rfl,trivial⟩,SubO.mp rfl,SubO.mp rfl,trivial⟩
 ·
  refine zO (zA ?_);refine zB (zE zM [1014] 400 rfl ?_);refine zF ?_;refine yJ _ _ (xI h b k v.k hv.k1 hv.k2 (by omega)) rfl ?_;refine zF ?_;refine zC (zA ?_);refine yK [0,3] [3] 410 [] [(0,.box 145 [.sl md 10 h obD ob0,.v (.int .i64 b),.mo 1 (k.n v.k).ord.length,.mo 2 (k.n v.k).out.length]),(1,.mrow 3 1 (.map (k.n v.k).ord iD 0)),(2,.mrow 5 1 (.map (k.n v.k).out u8D 0))] ?_;refine ⟨⟨yH,⟨⟨rfl,Sub.refl _,rfl,Sub.refl _,rfl,Sub.mo (by simp [Skt.w,Skt.n]),rfl,Sub.mo (by simp [Skt.w,Skt.n]),rfl,trivial⟩,SubO.mp rfl,SubO.mp rfl,yG⟩,rfl,rfl⟩,?_⟩;refine zB (zE zM [1018] 500 rfl ?_);refine zF ?_;refine yJ _ _ (xI h b (k.n v.k) v.r hv.r1 hv.r2 (by omega)) rfl ?_;refine zF ?_;refine zC (zA ?_);refine yK [0,3] [3] 510 [] [(0,.box 145 [.sl md 10 h obD ob0,.v (.int .i64 b),.mo 1 ((k.n v.k).n v.r).ord.length,.mo 2 ((k.n v.k).n v.r).out.length]),(1,.mrow 3 1 (.map ((k.n v.k).n v.r).ord iD 0)),(2,.mrow 5 1 (.map ((k.n v.k).n v.r).out u8D 0))] ?_;refine ⟨⟨yH,⟨⟨rfl,Sub.refl _,rfl,Sub.refl _,rfl,Sub.mo (by simp [Skt.w,Skt.n]),rfl,Sub.mo (by simp [Skt.w,Skt.n]),rfl,trivial⟩,SubO.mp rfl,SubO.mp rfl,yG⟩,rfl,rfl⟩,?_⟩;refine zV zM [1036] [[],[],[1],[1,2],[1,2,3],[],[5],[1,2,3,5,6],[1,2,3,5,6,7],[1,2,3,4,5,6,7,8],[1,2,3,4,5,6,7,8,9],[],[11],[1,2,3,5,6,7,8,11,12],[1,2,3,5,6,7,8,11,12,13],[1,2,3,4,5,6,7,8,9,10,11,12,13,14],[1,2,3,4,5,6,7,8,9,10,11,12,13,14,15],(rgN 17)] 600 yR (by kernel_rfl) rfl ?_;repeat (first | refine zG ?_ | refine zH ?_ | refine vF0 ?_)
  refine zT _ (gY0 v.s (by omega)) rfl ?_;repeat (first | refine zG ?_ | refine zH ?_ | refine vF0 ?_)
  refine zT _ (uT0 v.nn v.nl hv.nl (by omega)) rfl ?_;repeat (first | refine zG ?_ | refine zH ?_ | refine vF0 ?_)
  refine zT _ (zC0 v.nn (VL v.nl) (by omega)) rfl ?_;repeat (first | refine zG ?_ | refine zH ?_ | refine vF0 ?_)
  refine zT _ (uT0 v.dn v.dl hv.dl (by omega)) rfl ?_;repeat (first | refine zG ?_ | refine zH ?_ | refine vF0 ?_)
  refine zT _ (zC0 v.dn (VL v.dl) (by omega)) rfl ?_;repeat (first | refine zG ?_ | refine zH ?_ | refine vF0 ?_)
  refine yJ _ _ (jQ h b ((k.n v.k).n v.r) (vlT v) (by omega)) rfl ?_;repeat (first | refine zG ?_ | refine zH ?_ | refine vF0 ?_)
  refine zC ?_;rw [show k.v b v = ((k.n v.k).n v.r).w (vlT v) from if_neg c1];exact FinH.normal 3 rfl rfl (Sub.refl _) ⟨⟨rfl,Sub.refl _,rfl,Sub.refl _,rfl,Sub.refl _,rfl,Sub.refl _,rfl,trivial⟩,SubO.mp rfl,SubO.mp rfl,trivial⟩
theorem kW (h : List Ob) (b : Int) (N : Nat) (k : Skt) (l : List Vl) (hb : 0 ≤ b) (hN0 : N ≤ 1000000000) (hk : SkI b N k) (hv : ∀ a ∈ l,VlC N a) (hl : k.out.length + cVs l ≤ 1073741824) (hll : l.length ≤ 2000000) : FnG Tryz.prog 130 [.bp 0 0,.sl false 7 l vlD vl0] (skO md h b k) (.v (.tuple #[])) (skO md h b (k.vs b l)) := by
 have hc : cVs l = (l.map cV).sum + 1 := rfl;refine jE zM Tryz.func130 rfl rfl rfl rfl rfl rfl rfl ?_;intro w0 s0 mx;refine wK 1 rfl fun hl1 => ?_;refine zB (zL 100 ?_);refine zQ ?_;refine yC (ι := {i : Nat // i ≤ l.length}) [0,6,7] [] 150 (fun x => [(8,.v (.int .i64 x.1))]) (fun x => [(0,.box 145 [.sl md 10 h obD ob0,.v (.int .i64 b),.mo 1 (((l.take x.1).foldl (Skt.v b) k)).ord.length,.mo 2 (((l.take x.1).foldl (Skt.v b) k)).out.length]),(1,.mrow 3 1 (.map (((l.take x.1).foldl (Skt.v b) k)).ord iD 0)),(2,.mrow 5 1 (.map (((l.take x.1).foldl (Skt.v b) k)).out u8D 0))]) (fun x => l.length - x.1) ⟨0,Nat.zero_le _⟩ ?_;refine ⟨⟨⟨Sub.int rfl,yH⟩,⟨⟨rfl,Sub.refl _,rfl,Sub.refl _,rfl,Sub.mo (by simp [Skt.w,Skt.n]),rfl,Sub.mo (by simp [Skt.w,Skt.n]),rfl,trivial⟩,SubO.mp rfl,SubO.mp rfl,yG⟩,rfl,rfl⟩,fun x => ?_⟩;have hk0 : x.1 ≤ l.length := x.2;refine zL 200 ?_;refine zB (zS rfl (fun c1 => ?_) (fun c1 => ?_))
 ·have hlt : x.1 < l.length := by simpa using c1
  obtain ⟨hI,hL,hP,hN⟩ := vl_st hb hN0 hk hv hlt;have hI2 := hI.len hb;refine zO (zA (zB (zQ (zL 300 ?_))));refine zE zM [1014] 400 rfl ?_;refine zF ?_;refine yJ _ _ (skVal_G h b ((l.take x.1).foldl (Skt.v b) k) (l.getD x.1 vl0) hP.vin (by omega) (by omega)) rfl ?_;refine zF ?_;refine zC (zP (zA (yT zM [] 500 ?_)));exact zW ⟨x.1 + 1,by omega⟩ ⟨⟨Sub.int (by push_cast;rfl),yH⟩,⟨⟨rfl,Sub.refl _,rfl,Sub.refl _,rfl,Sub.mo (congrArg (fun k : Skt => k.ord.length) hN).symm,rfl,Sub.mo (congrArg (fun k : Skt => k.out.length) hN).symm,rfl,trivial⟩,SubO.mp (congrArg (fun k : Skt => D.pvss (k.ord.map iD)) hN).symm,SubO.mp (congrArg (fun k : Skt => D.pvss (k.out.map u8D)) hN).symm,yG⟩,rfl,rfl⟩ (by show l.length - (x.1 + 1) < l.length - x.1;omega)
 ·have hke : x.1 = l.length := by simp at c1;omega
  have htk : l.take x.1 = l := List.take_of_length_le (by omega);refine yF (zZ (yB (zX (zA ?_))));refine yK [0] [] 210 [] [(0,.box 145 [.sl md 10 h obD ob0,.v (.int .i64 b),.mo 1 (l.foldl (Skt.v b) k).ord.length,.mo 2 (l.foldl (Skt.v b) k).out.length]),(1,.mrow 3 1 (.map (l.foldl (Skt.v b) k).ord iD 0)),(2,.mrow 5 1 (.map (l.foldl (Skt.v b) k).out u8D 0))] ?_;refine ⟨⟨yH,⟨⟨rfl,Sub.refl _,rfl,Sub.refl _,rfl,Sub.mo (by rw [htk]),rfl,Sub.mo (by rw [htk]),rfl,trivial⟩,SubO.mp (by rw [htk]),SubO.mp (by rw [htk]),yG⟩,rfl,rfl⟩,?_⟩;refine zE zM [1017] 600 rfl ?_;refine zF ?_;refine yJ _ _ (jQ h b (l.foldl (Skt.v b) k) (sB 124) (by have h1 := (kT0 hb hN0 hk hv).len;show _ + 1 ≤ _;omega)) rfl ?_;refine zF ?_;refine zC ?_;exact FinH.normal 3 rfl rfl (Sub.refl _) ⟨⟨rfl,Sub.refl _,rfl,Sub.refl _,rfl,Sub.refl _,rfl,Sub.refl _,rfl,trivial⟩,SubO.mp rfl,SubO.mp rfl,trivial⟩
end Go.Proofs.YtbhndnphimmjjaaGreatDoor
