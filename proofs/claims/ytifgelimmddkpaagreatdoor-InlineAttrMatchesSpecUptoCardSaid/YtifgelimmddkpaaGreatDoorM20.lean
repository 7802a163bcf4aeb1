/- Part 20 of the proof. -/
import Derived.Test.YtifgelimmddkpaaGreatDoorM19
import Derived.Lib.ItoaLen
import Derived.Lib.AppendIntMem
namespace Go.Proofs.YtifgelimmddkpaaGreatDoor
open Go.RowKit
variable {md me : Bool}
def hpO (h : List Ob) : List DOwn := [.box 24 [.mo 1 h.length],.mrow 36 10 (.map h obD ob0)]
theorem vl_own (v : Vl) (a b : Nat) : D.pvs [.v (.int .i64 v.k),.v (.bool v.nn),.own a 1 (v.nl.map uD),.v (.bool v.dn),.own b 1 (v.dl.map uD),.v (.string v.s),.v (.int .i64 v.r)] = D.pvs (vlD v) := by
 simp only [vlD,D.pvs,D.pv,yR,Cb];rfl
theorem upd_same {α : Type} {f : α → List D} {e : α} {l : List α} {k : Nat} {r : List D} (hk : k < l.length) (hr : D.pvs r = D.pvs (f (l.getD ((k : Nat) : Int).toNat e))) : D.pvss ((l.map f).set ((k : Nat) : Int).toNat r) = D.pvss (l.map f) := by
 rw [Aw] at *;rw [yR,yR,List.map_set,hr];apply List.ext_getElem?;intro i;rw [List.getElem?_set];by_cases h : k = i
 ·subst h;simp [hk,Ai]
 ·simp [h]
theorem cF0 {h : List Ob} {o : Ob} {r : List D} (hr : D.pvs r = D.pvs (obD o)) : D.pvss (h.map obD ++ [r]) = D.pvss ((h ++ [o]).map obD) := by rw [Ad,pvss_snoc,hr];exact pvss_snoc.symm
theorem gN0 (l : List Vl) (hl : l.length ≤ 2000000) : FnG Tryz.prog 51 [vsD l] [] (.mo 0 l.length) [.mrow 29 7 (.map l vlD vl0)] := by
 refine qS zJ Tryz.func51 rfl rfl rfl rfl rfl rfl rfl ?_;intro w0 s0 mx;refine zB (zE zJ [] 100 rfl ?_);repeat (first | refine zG ?_ | refine zH ?_ | refine zW (by exact jG hl) ?_)
 refine zC (zA (zB (zB ?_)));refine uK Tryz.underlying34 rfl rfl rfl fun c hc => ?_;refine zA (zS rfl (fun c1 => ?_) (fun c1 => ?_))
 ·
  refine zB (zE zJ [] 300 rfl ?_);repeat (first | refine zG ?_ | refine zH ?_ | refine zW (by exact jG hl) ?_)
  refine zC (zA ?_);refine yW 2 29 7 rfl ?_;refine kM 300 rfl ?_;refine zK (zM ?_);obtain rfl := hc c1;exact FinH.ret 300 rfl rfl (Sub.refl _) ⟨SubO.mr rfl,trivial⟩
 ·
  refine zN (zA ?_);refine zB (zE zJ [1005] 400 rfl ?_);repeat (first | refine zG ?_ | refine zH ?_ | refine zW (by first | rfl | exact jG hl | (simp only [MR.len,Aq,Ao];omega)) ?_)
  refine zC (zA (zK ?_));exact FinH.ret 100 rfl rfl (Sub.mo (by rw [Ao,Ce])) ⟨SubO.mr rfl,trivial⟩
theorem cV0 {P : Program} {K : DS → Prop} {p : Prop} {r : Out} (hr : r.sat P K) (hp : p := by first | exact ⟨rfl,by show _ < l.length;omega⟩ | rfl | exact Dz) : (Out.need p r).sat P K := ⟨hp,hr⟩
theorem mI (l : List Vl) (hl : l.length ≤ 2000000) (hv : ∀ v ∈ l,VlIn v) : FnO Tryz.prog 158 [vsD l] 29 7 (l.map vlD) := by
 refine pY Tryz.func158 rfl rfl rfl rfl rfl rfl ?_;intro w0 s0 mx;refine zL 100 ?_;refine zB (zE zJ [1006] 200 rfl ?_);refine zF ?_;refine yK _ _ (gN0 l hl) rfl ?_;refine zF ?_;refine zC (zA (zB (zL 300 ?_)));refine zR ?_;refine yC (ι := {k : Nat // k ≤ l.length}) [3,8] [] 350 (fun x => [(9,.v (.int .i64 x.1))]) (fun x => [(101,.mrow 29 7 (.map l vlD vl0))]) (fun x => l.length - x.1) ⟨0,Ap _⟩ ?_;refine ⟨⟨yG,yD,rfl,rfl⟩,fun x => ?_⟩;have hk : x.1 ≤ l.length := x.2;refine zL 400 ?_;refine zB (zZ (fun c3 => ?_) (fun c3 => ?_))
 ·
  refine zN (zA (zB (zR ?_)));have hvk : VlIn (l.getD ((x.1 : Nat) : Int).toNat vl0) := hv _ (xE0 vl0 c3);refine zL 500 ?_;refine zU zJ [22,29] [[],[],[],[],[],[],[4,5],[4,5,6],[4,5,6,7],[4,5,6,7,8],[4,5,6,7,8,9],[],[],[11,12],[11,12,13],[11,12,13,14],[11,12,13,14,15],[4,5,6,7,8,9,10,11,12,13,14,15,16],[0,1,4,5,6,7,8,9,10,11,12,13,14,15,16,17],[0,1,4,5,6,7,8,9,10,11,12,13,14,15,16,17,18],[0,1,4,5,6,7,8,9,10,11,12,13,14,15,16,17,18,19],[0,1,4,5,6,7,8,9,10,11,12,13,14,15,16,17,18,19,20],(rgN 22),(rgN 23),(rgN 24),(rgN 25)] 600 yP (by kernel_rfl) rfl ?_;repeat (first | refine zG ?_ | refine zH ?_ | refine cV0 ?_)
  refine qK _ _ _ (mU _ hvk.nn) ?_;repeat (first | refine zG ?_ | refine zH ?_ | refine cV0 ?_)
  refine qK _ _ _ (mU _ hvk.dn) ?_;repeat (first | refine zG ?_ | refine zH ?_ | refine cV0 ?_)
  refine zC (zP (zA (yT zJ [] 700 ?_)));exact zV (⟨x.1 + 1,by omega⟩) ⟨⟨Sub.int (by push_cast;rfl),yG⟩,⟨SubO.mp (by show D.pvss (((l.map vlD).set _ _).set _ _) = _;rw [List.set_set];exact upd_same c3 (vl_own _ _ _)),yD⟩,rfl,rfl⟩ (by show l.length - (x.1 + 1) < l.length - x.1;omega)
 ·
  refine yF (yA (yB (zY (zA ?_))));refine uQ 101 rfl (by repeat (first | exact trivial | exact rfl | refine ⟨?_,?_⟩)) (by repeat (first | exact trivial | refine ⟨?_,?_⟩)) ?_;refine zL 800 ?_;refine zK ?_;exact FinO.ret rfl rfl rfl rfl
theorem heapClone_ok (o : Ob) (ho : ObIn o) : Fn Tryz.prog 131 [.agg (obD o)] (.agg (obD o)) := by
 refine yL zJ Tryz.func131 rfl rfl rfl rfl rfl rfl ?_;intro w0 s0 mx;refine zL 100 ?_;refine zB (zU zJ [5,8,11] mK10 200 yP (by kernel_rfl) rfl ?_);refine zF ?_;refine qK _ _ _ (vU _ ho.rl) ?_;refine zF ?_;refine qK _ _ _ (vU _ ho.ol) ?_;refine zF ?_;refine qK _ _ _ (tR _ ho.nl) ?_;refine zF ?_;refine zC (zA ?_);refine zB (zU zJ [17,20] mK11 300 yP (by kernel_rfl) rfl ?_);refine zF ?_;refine qK _ _ _ (mI _ ho.il ho.iv) ?_;refine zF ?_;refine qK _ _ _ (mI _ ho.kl ho.kv) ?_;refine zF ?_;refine zC (zA (zL 400 ?_));refine zK ?_;exact FinV.ret rfl (SubP.agg ⟨SubP.refl _,SubP.refl _,SubP.refl _,SubP.ownSl rfl,SubP.ownSl rfl,SubP.ownSl rfl,SubP.ownSl rfl,SubP.ownSl rfl,SubP.refl _,SubP.refl _,trivial⟩)
theorem gU0 {P : Program} {K : DS → Prop} {p : Prop} {r : Out} (hr : r.sat P K) (hp : p := by first | rfl | exact ⟨rfl,by simp only [MR.len,Ao];omega⟩ | exact ⟨rfl,by simp [MR.len];omega⟩ | (simp only [MR.len,Ao,Ae,Cj];omega) | (simp [MR.len];exact ini (by omega) (by omega)) | exact Dz) : (Out.need p r).sat P K := ⟨hp,hr⟩
theorem jB0 (h : List Ob) (o : Ob) (hh : h.length ≤ 4000000) (ho : ObIn o) : FnG Tryz.prog 92 [.bp 0 0,.agg (obD o)] (hpO h) (.v (.int .i64 (h.length : Nat))) (hpO (h ++ [o])) := by
 refine qS zJ Tryz.func92 rfl rfl rfl rfl rfl rfl rfl ?_;intro w0 s0 mx;refine zL 100 ?_;refine zB (zU zJ [] [[],[],[1],[1,2],[1,2,3],[],[5],[5,6],[1,2,3,4,5,6,7],(rgN 9),(rgN 10),(rgN 11)] 200 yP (by kernel_rfl) rfl ?_);repeat (first | refine zG ?_ | refine zH ?_ | refine gU0 ?_)
 refine zT _ (heapClone_ok _ (by first | assumption | omega | (simp_all;done))) rfl ?_;repeat (first | refine zG ?_ | refine zH ?_ | refine gU0 ?_)
 refine zC (zA ?_);refine zB (zE zJ [] 300 rfl ?_);repeat (first | refine zG ?_ | refine zH ?_ | refine gU0 ?_)
 refine zC (zA (zK ?_));exact FinH.ret 2 rfl rfl (Sub.int (by simp)) ⟨⟨rfl,Sub.mo (by simp),rfl,trivial⟩,SubO.mp (cF0 rfl),trivial⟩
theorem uB0 (h : List Ob) (o : Ob) (hh : h.length ≤ 4000000) : FnG Tryz.prog 64 [.bp 0 0,.agg (obD o)] (hpO h) (.agg (vlD (rfV (h.length : Nat)))) (hpO (h ++ [o])) := by
 refine qS zJ Tryz.func64 rfl rfl rfl rfl rfl rfl rfl ?_;intro w0 s0 mx;refine zL 100 ?_;refine zB (zU zJ [] [[],[],[1],[1,2],[1,2,3],[],[5],[1,2,3,4,5,6],(rgN 8),(rgN 9),(rgN 10)] 200 yP (by kernel_rfl) rfl ?_);repeat (first | refine zG ?_ | refine zH ?_ | refine gU0 ?_)
 refine zC (zA ?_);refine zB (zE zJ [] 300 rfl ?_);repeat (first | refine zG ?_ | refine zH ?_ | refine gU0 ?_)
 refine zT _ (O_ok _) rfl ?_;repeat (first | refine zG ?_ | refine zH ?_ | refine gU0 ?_)
 refine zC (zA (zK ?_));exact FinH.ret 2 rfl rfl (Sub.of_eq (by simp;rfl)) ⟨⟨rfl,Sub.mo (by simp),rfl,trivial⟩,SubO.mp (cF0 rfl),trivial⟩
variable {md me : Bool}
def cpD (md : Bool) (h : List Ob) : D := .pt true [.sl md 10 h obD ob0]
section
variable {h : List Ob} {F G : Vl → Vl → Bool}
end
section
variable {h : List Ob} {x y : Ob} {i : Nat} (hi : i < y.keys.length)
include hi
end
variable {md me : Bool}
def rD (b : Bool) (n : Nat) : D := .agg [.v (.bool b),natD n]
theorem uC0 (b : Bool) (l : List Nat) (hg : Lg l) (hl : l.length ≤ 100000000) : Fn Tryz.prog 180 [.agg [.v (.bool b),usD l]] (rD b (VL l)) := by
 refine yL zJ Tryz.func180 rfl rfl rfl rfl rfl rfl ?_;intro w0 s0 mx;refine zL 100 ?_;refine zB (zU zJ [] [[],[0],[],[2],[2,3],(rgN 5),(rgN 6)] 200 yP (by kernel_rfl) rfl ?_);refine zF ?_;refine zT _ (dR0 _ (by first | assumption | omega | (simp_all;done)) (by first | assumption | omega | (simp_all;done))) rfl ?_;refine zF ?_;refine zC (zA (zK ?_));exact FinV.ret rfl (SubP.refl _)
variable {md me : Bool}
variable {md me : Bool}
section
variable {P : Program} {b : Ba} {ops : Array Oper}
end
def ArgS : List D → List D → Prop
 | [],[] => True
 | d :: l,d' :: l' => Sub d d' ∧ ArgS l l'
 | _,_ => False
theorem ArgS.all {w : World} {s : Sb} {g : Gh} : ∀ {l l' : List D} {vs : List Value},ArgS l l' → AllT w s g (D.tvl l) vs → AllT w s g (D.tvl l') vs
 | [],[],_,_,h => h
 | d :: l,d' :: l',[],_,h => by rw [D.tvl] at h;simp [AllT] at h
 | d :: l,d' :: l',v :: vs,h,hv => by
  rw [D.tvl,AllT.cons] at hv;rw [D.tvl,AllT.cons];exact ⟨h.1 _ _ _ _ hv.1,h.2.all hv.2⟩
 | [],_ :: _,_,h,_ => h.elim
 | _ :: _,[],_,h,_ => h.elim
theorem FnG.args {P : Program} {f : FuncId} {args args' : List D} {own own' : List DOwn} {out : D} (h : FnG P f args own out own') (hs : ArgS args' args) : FnG P f args' own out own' :=
 ⟨h.bod,fun w s g vs hg ha => h.run w s g vs hg (hs.all ha)⟩
variable {md me : Bool}
theorem zF0 {h : List Ob} {n : Nat} {o : Ob} {row : List D} (hr : D.pvs row = D.pvs (obD o)) : D.pvss ((h.map obD).set n row) = D.pvss ((h.set n o).map obD) := by
 rw [yR,yR,List.map_set,hr,Cb,Cb,List.map_set];rfl
def itB (n : Int) : ByteArray := ⟨(Lib.itoa n).toArray⟩
def quB (s : ByteArray) : ByteArray := strOfNums (Lib.quoteZ Lib.goPrintTabs s)
theorem xK0 {n : Int} (h0 : -9223372036854775808 ≤ n) (h1 : n ≤ 9223372036854775807) : (itB n).size ≤ 21 := by
 have := Lib.itoa_length_le n h0 h1;simpa [itB,ByteArray.size] using this
theorem dK (s : ByteArray) : (quB s).size ≤ 10 * s.size + 2 := by
 have := Lib.quoteZ_length_le Lib.goPrintTabs s;rw [quB,strOfNums_size];exact this
def hxL (x : Nat) : List Nat := if h : x = 0 then [] else x % 16 :: hxL (x / 16)
termination_by x
decreasing_by omega
theorem mH : hxL 0 = [] := by rw [hxL];rfl
theorem zY0 {x : Nat} (h : x ≠ 0) : hxL x = x % 16 :: hxL (x / 16) := by rw [hxL,dif_neg h]
theorem tL0 : ∀ {n x d : Nat},x < n → d ∈ hxL x → d < 16
 | 0,x,d,h,_ => by omega
 | n + 1,x,d,h,hd => by
  by_cases h0 : x = 0
  ·subst h0;rw [mH] at hd;cases hd
  ·rw [zY0 h0] at hd;rcases Be.1 hd with rfl | hd
   ·exact Nat.mod_lt _ (by decide)
   ·exact tL0 (n := n) (by omega) hd
theorem vA0 : ∀ {n x : Nat},x < 16 ^ n → (hxL x).length ≤ n
 | 0,x,h => by
  have : x = 0 := by simpa using h
  subst this;rw [mH];exact Ar 0
 | n + 1,x,h => by
  by_cases h0 : x = 0
  ·subst h0;rw [mH];exact Ap _
  ·rw [zY0 h0,Ak];have := vA0 (n := n) (x := x / 16) (by rw [Db] at h;omega);omega
def alB : ByteArray := ⟨#[48,49,50,51,52,53,54,55,56,57,97,98,99,100,101,102,103,104,105,106,107,108,109,110,111,112,113,114,115,116,117,118,119,120,121,122]⟩
def hxS (b : Bool) (x : Nat) : ByteArray := if x = 0 then ⟨#[48]⟩ else ⟨((if b then [45] else []) ++ (hxL x).reverse.map fun d => UInt8.ofNat (bAt alB d)).toArray⟩
theorem dN {b : Bool} {l : List Nat} (h : Lg l) : (hxS b (VL l)).size ≤ 8 * l.length + 2 := by
 have h1 := L_lt h;have h2 : (hxL (VL l)).length ≤ 8 * l.length := vA0 (by rw [Nat.pow_mul];exact h1);unfold hxS;split
 ·show 1 ≤ _;omega
 ·have h3 : (if b = true then [(45 : UInt8)] else []).length ≤ 1 := by split <;> decide
  show (List.toArray _).size ≤ _;rw [Bi,Ae,Ao,Dx];omega
structure Skt where
 ord : List Int
 out : List UInt8
def sB (n : UInt8) : ByteArray := ⟨#[n]⟩
def Skt.w (k : Skt) (s : ByteArray) : Skt := ⟨k.ord,k.out ++ s.data.toList⟩
def Skt.n (k : Skt) (n : Int) : Skt := k.w (itB n ++ sB 32)
def Skt.see (b : Int) (k : Skt) (n : Int) : Skt :=
 if n < b then (k.w (sB 35)).n n
 else if ixI k.ord n < 0 then ((⟨k.ord ++ [n],k.out⟩ : Skt).w (sB 64)).n (k.ord.length : Nat)
 else (k.w (sB 64)).n (ixI k.ord n)
def vlT (v : Vl) : ByteArray := quB v.s ++ sB 32 ++ hxS v.nn (VL v.nl) ++ sB 32 ++ hxS v.dn (VL v.dl) ++ sB 44
def Skt.v (b : Int) (k : Skt) (v : Vl) : Skt := if v.k = 6 then k.see b v.r else ((k.n v.k).n v.r).w (vlT v)
def Skt.vs (b : Int) (k : Skt) (l : List Vl) : Skt := (l.foldl (Skt.v b) k).w (sB 124)
def Skt.o1 (_ : Int) (k : Skt) (o : Ob) : Skt := (((k.w (sB 10)).n o.kind).n o.code).w (quB o.name)
def Skt.o2 (k : Skt) (l : List ByteArray) : Skt := l.foldl (fun k s => k.w (s ++ sB 44)) k
def Skt.o3 (b : Int) (e : Bool) (k : Skt) (o : Ob) : Skt := if o.kind = 18 ∧ 0 < o.state then k.see b (o.state - 1) else if ¬ o.kind = 9 ∨ e = true then k.n o.state else k
def Skt.o4 (b : Int) (k : Skt) (o : Ob) : Skt := if o.kind = 10 ∨ o.kind = 7 then k.see b o.cls else k
def Skt.o5 (b : Int) (e : Bool) (k : Skt) (o : Ob) : Skt := ((if e = true then o.order else []).foldl (Skt.see b) (o.refs.foldl (Skt.see b) (k.w (sB 59)))).w (sB 124)
def Skt.ob (b : Int) (e : Bool) (k : Skt) (o : Ob) : Skt := ((((((k.o1 b o).o2 o.names).o3 b e o).o4 b o).o5 b e o).vs b o.keys).vs b o.items
def cV (v : Vl) : Nat := 60 + 10 * v.s.size + 8 * v.nl.length + 8 * v.dl.length
def cVs (l : List Vl) : Nat := (l.map cV).sum + 1
def cO (o : Ob) : Nat := 120 + 10 * o.name.size + (o.names.map fun s => s.size + 1).sum + 23 * o.refs.length + 23 * o.order.length + cVs o.keys + cVs o.items
theorem gO0 (k : Skt) (s : ByteArray) : (k.w s).out.length = k.out.length + s.size ∧ (k.w s).ord = k.ord := ⟨by show (k.out ++ s.data.toList).length = _;rw [Ae];rfl,rfl⟩
theorem zA1 {k : Skt} {n : Int} (h0 : -9223372036854775808 ≤ n) (h1 : n ≤ 9223372036854775807) : (k.n n).out.length ≤ k.out.length + 22 ∧ (k.n n).ord = k.ord := by
 have := xK0 h0 h1;refine ⟨?_,rfl⟩;rw [Skt.n,(gO0 _ _).1,Av];show _ + (_ + 1) ≤ _;omega
theorem zT0 {α : Type} [DecidableEq α] : ∀ (l : List α) (n : α),ixI l n < l.length
 | [],n => by show (-1 : Int) < ((0 : Nat) : Int);omega
 | x :: l,n => by
  have := zT0 l n;rw [ixI,Ak];split
  ·omega
  ·split <;> omega
structure SkI (b : Int) (N : Nat) (k : Skt) : Prop where
 mem : ∀ n ∈ k.ord,b ≤ n ∧ n < (N : Int)
 nd : k.ord.Nodup
theorem cB : ∀ {N : Nat} {l : List Int},l.Nodup → (∀ n ∈ l,0 ≤ n ∧ n < (N : Int)) → l.length ≤ N
 | 0,[],_,_ => Ar 0
 | 0,x :: l,_,h => by have := h x Ay;omega
 | N + 1,l,hn,h => by
  have h1 : (l.filter fun n => decide (n ≠ (N : Int))).Nodup := hn.filter _;have h2 := cB (N := N) h1 fun n hm => by
   obtain ⟨hm,hd⟩ := List.mem_filter.1 hm;have := h n hm;have := Af hd;omega
  have h3 : (l.filter fun n => !decide (n ≠ (N : Int))).length ≤ 1 := by
   have h4 : (l.filter fun n => !decide (n ≠ (N : Int))).Nodup := hn.filter _;generalize hL : (l.filter fun n => !decide (n ≠ (N : Int))) = L at *;have h5 : ∀ n ∈ L,n = (N : Int) := fun n hm => by
    rw [← hL] at hm;have := (List.mem_filter.1 hm).2;simpa using this
   match L,h4,h5 with
   | [],_,_ => exact Ap _
   | [_],_,_ => exact Ar _
   | a :: c :: L,h4,h5 =>
    have e1 := h5 a Ay;have e2 := h5 c (Az _ Ay);rw [List.nodup_cons] at h4;exact absurd (by rw [e1,e2];exact Ay) h4.1
  have h6 : l.length = (l.filter fun n => decide (n ≠ (N : Int))).length + (l.filter fun n => !decide (n ≠ (N : Int))).length := by
   clear hn h h1 h2 h3;induction l with
   | nil => rfl
   | cons x l ih =>
    rw [Dv,Dv,Ak,ih];by_cases hx : x = (N : Int)
    ·simp [hx];omega
    ·simp [hx];omega
  omega
theorem SkI.len {b : Int} {N : Nat} {k : Skt} (h : SkI b N k) (hb : 0 ≤ b) : k.ord.length ≤ N := cB h.nd fun n hn => by have := h.mem n hn;omega
theorem ixI_neg {l : List Int} {n : Int} (h : ixI l n < 0) : n ∉ l := fun hm => by
 have h1 := bP l n;have h2 : jF l n = true := by simpa [jF] using hm
 rw [h2] at h1;have := Af h1;omega
structure SkS (b : Int) (N : Nat) (k k' : Skt) (c : Nat) : Prop where
 inv : SkI b N k'
 len : k'.out.length ≤ k.out.length + c
 pre : ∃ r,k'.ord = k.ord ++ r
theorem SkS.refl {b : Int} {N : Nat} {k : Skt} (h : SkI b N k) : SkS b N k k 0 := ⟨h,by omega,[],by simp⟩
theorem SkS.trans {b : Int} {N : Nat} {k k' k'' : Skt} {c d : Nat} (h : SkS b N k k' c) (g : SkS b N k' k'' d) : SkS b N k k'' (c + d) := by
 obtain ⟨r,hr⟩ := h.pre;obtain ⟨q,hq⟩ := g.pre;exact ⟨g.inv,by have := h.len;have := g.len;omega,r ++ q,by rw [hq,hr,Co]⟩
theorem SkS.le {b : Int} {N : Nat} {k k' : Skt} {c d : Nat} (h : SkS b N k k' c) (hc : c ≤ d) : SkS b N k k' d := ⟨h.inv,by have := h.len;omega,h.pre⟩
theorem w_ok {b : Int} {N : Nat} {k : Skt} (h : SkI b N k) (s : ByteArray) : SkS b N k (k.w s) s.size := ⟨⟨h.mem,h.nd⟩,by rw [(gO0 _ _).1];omega,[],by simp [Skt.w]⟩
theorem n_ok {b : Int} {N : Nat} {k : Skt} (h : SkI b N k) {n : Int} (h0 : -9223372036854775808 ≤ n) (h1 : n ≤ 9223372036854775807) : SkS b N k (k.n n) 22 := ⟨⟨h.mem,h.nd⟩,(zA1 h0 h1).1,[],by simp [Skt.n,Skt.w]⟩
theorem qH0 {b : Int} {N : Nat} {k : Skt} {n : Int} (h : SkI b N k) (hb : 0 ≤ b) (hN : N ≤ 1000000000) (h0 : -9223372036854775808 ≤ n) (h1 : n < (N : Int)) : SkS b N k (k.see b n) 23 := by
 have hl := h.len hb;unfold Skt.see;split
 ·exact ((w_ok h (sB 35)).trans (n_ok (w_ok h (sB 35)).inv h0 (by omega))).le (by decide)
 ·split
  ·rename_i hx hi;have hm := ixI_neg hi;have a : SkS b N k (⟨k.ord ++ [n],k.out⟩ : Skt) 0 := by
    refine ⟨⟨fun m hm => ?_,?_⟩,Ar _,[n],rfl⟩
    ·rcases Ax.1 hm with hm | hm
     ·exact h.mem m hm
     ·rw [By.1 hm];omega
    ·show (k.ord ++ [n]).Nodup;rw [List.nodup_append];refine ⟨h.nd,by simp,fun a ha c hc => ?_⟩;rw [By.1 hc];exact fun e => hm (e ▸ ha)
   have a2 := a.trans (w_ok a.inv (sB 64));exact (a2.trans (n_ok a2.inv (n := (k.ord.length : Nat)) (by omega) (by omega))).le (by decide)
  ·rename_i hx hi;have h2 : ixI k.ord n < k.ord.length := zT0 _ _;exact ((w_ok h (sB 64)).trans (n_ok (w_ok h (sB 64)).inv (by omega) (by omega))).le (by decide)
theorem bC {b : Int} {N : Nat} (hb : 0 ≤ b) (hN : N ≤ 1000000000) : ∀ {l : List Int} {k : Skt},SkI b N k → (∀ n ∈ l,0 ≤ n ∧ n < (N : Int)) → SkS b N k (l.foldl (Skt.see b) k) (23 * l.length)
 | [],k,h,_ => SkS.refl h
 | n :: l,k,h,hl => by
  have h1 := hl n Ay;have h2 := qH0 h hb hN (n := n) (by omega) h1.2;exact (h2.trans (bC hb hN (l := l) h2.inv fun m hm => hl m (Az _ hm))).le (by rw [Ak];omega)
structure VlC (N : Nat) (v : Vl) : Prop where
 vin : VlIn v
 r : v.k = 6 → v.r < (N : Int)
structure ObC (N : Nat) (o : Ob) : Prop where
 oin : ObIn o
 st : o.kind = 18 → o.state - 1 < (N : Int)
 cls : o.kind = 10 ∨ o.kind = 7 → o.cls < (N : Int)
 refs : ∀ n ∈ o.refs,0 ≤ n ∧ n < (N : Int)
 order : ∀ n ∈ o.order,0 ≤ n ∧ n < (N : Int)
 keys : ∀ v ∈ o.keys,VlC N v
 items : ∀ v ∈ o.items,VlC N v
theorem vU0 {v : Vl} (h : VlIn v) : (vlT v).size ≤ 10 * v.s.size + 8 * v.nl.length + 8 * v.dl.length + 9 := by
 have h1 := dK v.s;have h2 := dN (b := v.nn) h.nl;have h3 := dN (b := v.dn) h.dl;have e : ∀ n,(sB n).size = 1 := fun _ => rfl;simp only [vlT,Av,e];omega
theorem v_ok {b : Int} {N : Nat} {k : Skt} {v : Vl} (h : SkI b N k) (hb : 0 ≤ b) (hN : N ≤ 1000000000) (hv : VlC N v) : SkS b N k (k.v b v) (cV v) := by
 unfold Skt.v cV;split
 ·rename_i hk;exact (qH0 h hb hN hv.vin.r1 (hv.r hk)).le (by omega)
 ·have h1 := n_ok h hv.vin.k1 hv.vin.k2;have h2 := h1.trans (n_ok h1.inv hv.vin.r1 hv.vin.r2);have h4 := vU0 hv.vin;exact (h2.trans (w_ok h2.inv (vlT v))).le (by omega)
theorem kG0 {b : Int} {N : Nat} (hb : 0 ≤ b) (hN : N ≤ 1000000000) : ∀ {l : List Vl} {k : Skt},SkI b N k → (∀ v ∈ l,VlC N v) → SkS b N k (l.foldl (Skt.v b) k) (l.map cV).sum
 | [],k,h,_ => SkS.refl h
 | v :: l,k,h,hl => by
  have h2 := v_ok h hb hN (hl v Ay);exact (h2.trans (kG0 hb hN (l := l) h2.inv fun m hm => hl m (Az _ hm))).le (by rw [Bh,Bu];exact Ar _)
theorem dT0 {b : Int} {N : Nat} {l : List Vl} {k : Skt} (h : SkI b N k) (hb : 0 ≤ b) (hN : N ≤ 1000000000) (hl : ∀ v ∈ l,VlC N v) : SkS b N k (k.vs b l) (cVs l) := by
 have h1 := kG0 hb hN h hl;exact (h1.trans (w_ok h1.inv (sB 124))).le (Ar _)
theorem cY0 {b : Int} {N : Nat} : ∀ {l : List ByteArray} {k : Skt},SkI b N k → SkS b N k (k.o2 l) (l.map fun s => s.size + 1).sum
 | [],k,h => SkS.refl h
 | s :: l,k,h => by
  have h1 := w_ok h (s ++ sB 44);refine (h1.trans (cY0 (l := l) h1.inv)).le ?_;rw [Av,Bh,Bu];exact Ar _
theorem yX1 {b : Int} {N : Nat} {k : Skt} {o : Ob} (h : SkI b N k) (ho : ObIn o) : SkS b N k (k.o1 b o) (47 + 10 * o.name.size) := by
 have h1 := w_ok h (sB 10);have h2 := h1.trans (n_ok h1.inv ho.kd.1 ho.kd.2);have h3 := h2.trans (n_ok h2.inv ho.co.1 ho.co.2);have h4 := dK o.name;exact (h3.trans (w_ok h3.inv (quB o.name))).le (by show 1 + 22 + 22 + _ ≤ _;omega)
theorem yW1 {b : Int} {N : Nat} {k : Skt} {o : Ob} {e : Bool} (h : SkI b N k) (hb : 0 ≤ b) (hN : N ≤ 1000000000) (ho : ObC N o) : SkS b N k (k.o3 b e o) 23 := by
 unfold Skt.o3;split
 ·rename_i hk;exact qH0 h hb hN (by omega) (ho.st hk.1)
 ·split
  ·exact (n_ok h ho.oin.st.1 ho.oin.st.2).le (by decide)
  ·exact (SkS.refl h).le (by decide)
theorem yV1 {b : Int} {N : Nat} {k : Skt} {o : Ob} (h : SkI b N k) (hb : 0 ≤ b) (hN : N ≤ 1000000000) (ho : ObC N o) : SkS b N k (k.o4 b o) 23 := by
 unfold Skt.o4;split
 ·rename_i hk;exact qH0 h hb hN ho.oin.cl.1 (ho.cls hk)
 ·exact (SkS.refl h).le (by decide)
theorem o5_ok {b : Int} {N : Nat} {k : Skt} {o : Ob} {e : Bool} (h : SkI b N k) (hb : 0 ≤ b) (hN : N ≤ 1000000000) (ho : ObC N o) : SkS b N k (k.o5 b e o) (2 + 23 * o.refs.length + 23 * o.order.length) := by
 have h1 := w_ok h (sB 59);have h2 := h1.trans (bC hb hN (l := o.refs) h1.inv ho.refs);have h3 := h2.trans (bC hb hN (l := if e = true then o.order else []) h2.inv fun n hn => by
  split at hn
  ·exact ho.order n hn
  ·cases hn)
 have e5 : (if e = true then o.order else []).length ≤ o.order.length := by split <;> simp
 exact (h3.trans (w_ok h3.inv (sB 124))).le (by show 1 + _ + _ + 1 ≤ _;omega)
theorem yU1 {b : Int} {N : Nat} {k : Skt} {o : Ob} {e : Bool} (h : SkI b N k) (hb : 0 ≤ b) (hN : N ≤ 1000000000) (ho : ObC N o) : SkS b N k (k.ob b e o) (cO o) := by
 have h1 := yX1 h ho.oin;have h2 := h1.trans (cY0 (l := o.names) h1.inv);have h3 := h2.trans (yW1 (e := e) h2.inv hb hN ho);have h4 := h3.trans (yV1 h3.inv hb hN ho);have h5 := h4.trans (o5_ok (e := e) h4.inv hb hN ho);have h6 := h5.trans (dT0 h5.inv hb hN ho.keys);exact (h6.trans (dT0 h6.inv hb hN ho.items)).le (by unfold cO;omega)
theorem dY {f : Nat → Nat} : ∀ {N : Nat} {L : List Nat},L.Nodup → (∀ n ∈ L,n < N) → (L.map f).sum ≤ ((List.range N).map f).sum
 | 0,[],_,_ => Ar _
 | 0,x :: l,_,h => absurd (h x Ay) (Nat.not_lt_zero _)
 | N + 1,L,hn,h => by
  have h2 := dY (f := f) (N := N) (hn.filter fun n => decide (n ≠ N)) fun n hm => by
   obtain ⟨hm,hd⟩ := List.mem_filter.1 hm;have := h n hm;have := Af hd;omega
  have h3 : ((L.filter fun n => !decide (n ≠ N)).map f).sum ≤ f N := by
   have h4 : (L.filter fun n => !decide (n ≠ N)).Nodup := hn.filter _;have h5 : ∀ n ∈ (L.filter fun n => !decide (n ≠ N)),n = N := fun n hm => by simpa using (List.mem_filter.1 hm).2
   generalize (L.filter fun n => !decide (n ≠ N)) = M at *
   match M,h4,h5 with
   | [],_,_ => exact Ap _
   | [a],_,h5 => rw [h5 a Ay];simp
   | a :: c :: M,h4,h5 =>
    have e1 := h5 a Ay;have e2 := h5 c (Az _ Ay);rw [List.nodup_cons] at h4;exact absurd (by rw [e1,e2];exact Ay) h4.1
  have h6 : (L.map f).sum = ((L.filter fun n => decide (n ≠ N)).map f).sum + ((L.filter fun n => !decide (n ≠ N)).map f).sum := by
   clear hn h h2 h3;induction L with
   | nil => rfl
   | cons x l ih =>
    rw [Dv,Dv,Bh,Bu,ih];by_cases hx : x = N
    ·simp [hx];omega
    ·simp [hx];omega
  rw [List.range_succ,Ad,Df,Dl,Dm,h6];omega
def Skt.base (b : Int) (e : Bool) (h : List Ob) (k : Skt) (m : Nat) : Skt := (List.range m).foldl (fun k i => k.ob b e (h.getD i ob0)) k
def Skt.run (b : Int) (e : Bool) (h : List Ob) : Nat → Nat → Skt → Skt
 | 0,_,k => k
 | n + 1,i,k => if i < k.ord.length then Skt.run b e h n (i + 1) (k.ob b e (h.getD (k.ord.getD i 0).toNat ob0)) else k
def HpC (h : List Ob) : Prop := ∀ o ∈ h,ObC h.length o
def cOs (h : List Ob) (L : List Nat) : Nat := (L.map fun i => cO (h.getD i ob0)).sum
def cH (h : List Ob) : Nat := cOs h (List.range h.length)
theorem HpC.at {h : List Ob} (hh : HpC h) {i : Nat} (hi : i < h.length) : ObC h.length (h.getD i ob0) := by
 rw [Ai,Ac hi];exact hh _ (Ca _)
theorem jV0 (b : Int) (e : Bool) (h : List Ob) (k : Skt) (m : Nat) : Skt.base b e h k (m + 1) = (Skt.base b e h k m).ob b e (h.getD m ob0) := by
 rw [Skt.base,List.range_succ,List.foldl_append];rfl
theorem vR0 {b : Int} {e : Bool} {h : List Ob} {k : Skt} (hk : SkI b h.length k) (hb : 0 ≤ b) (hN : h.length ≤ 1000000000) (hh : HpC h) : ∀ {m : Nat},m ≤ h.length → SkS b h.length k (Skt.base b e h k m) (cOs h (List.range m))
 | 0,_ => SkS.refl hk
 | m + 1,hm => by
  have h1 := vR0 (e := e) hk hb hN hh (m := m) (by omega);rw [jV0];refine (h1.trans (yU1 h1.inv hb hN (hh.at (by omega)))).le ?_;rw [cOs,cOs,List.range_succ,Ad,Df,Dl,Dm];exact Ar _
theorem qO0 : ∀ {l : List Int},l.Nodup → (∀ n ∈ l,0 ≤ n) → (l.map Int.toNat).Nodup
 | [],_,_ => List.nodup_nil
 | x :: l,hn,h => by
  rw [List.nodup_cons] at hn;rw [Bh,List.nodup_cons];refine ⟨fun hm => ?_,qO0 hn.2 fun n hm => h n (Az _ hm)⟩;obtain ⟨y,hy,e⟩ := Bv.1 hm;have h1 := h x Ay;have h2 := h y (Az _ hy);exact hn.1 ((show y = x by omega) ▸ hy)
theorem xX0 {b : Int} {h : List Ob} {k : Skt} {m i : Nat} (hk : SkI b h.length k) (hm : (m : Int) ≤ b) (hm2 : m ≤ h.length) : cOs h (List.range m ++ (k.ord.take i).map Int.toNat) ≤ cH h := by
 refine dY ?_ fun n hn => ?_
 ·rw [List.nodup_append];refine ⟨List.nodup_range,qO0 (hk.nd.sublist (List.take_sublist _ _)) fun n hn => by have := hk.mem n (Ci hn);omega,fun a ha c hc => ?_⟩;have h1 := Ch.1 ha;obtain ⟨y,hy,rfl⟩ := Bv.1 hc;have := hk.mem y (Ci hy);omega
 ·rcases Ax.1 hn with hn | hn
  ·have := Ch.1 hn;omega
  ·obtain ⟨y,hy,rfl⟩ := Bv.1 hn;have := hk.mem y (Ci hy);omega
structure Rn (b : Int) (e : Bool) (h : List Ob) (m C : Nat) (kf : Skt) where
 i : Nat
 k : Skt
 inv : SkI b h.length k
 le : i ≤ k.ord.length
 eq : Skt.run b e h (h.length - i) i k = kf
 len : k.out.length ≤ C + cOs h (List.range m ++ (k.ord.take i).map Int.toNat)
def Rn.start {b : Int} (e : Bool) {h : List Ob} {m C : Nat} (k : Skt) (hk : SkI b h.length k) (hl : k.out.length ≤ C + cOs h (List.range m)) : Rn b e h m C (Skt.run b e h h.length 0 k) := ⟨0,k,hk,Ap _,rfl,by simpa using hl⟩
theorem Rn.at {b : Int} {e : Bool} {h : List Ob} {m C : Nat} {kf : Skt} (x : Rn b e h m C kf) (hi : x.i < x.k.ord.length) : b ≤ x.k.ord.getD x.i 0 ∧ x.k.ord.getD x.i 0 < (h.length : Int) := by
 rw [Ai,Ac hi];exact x.inv.mem _ (Ca _)
def Rn.next {b : Int} {e : Bool} {h : List Ob} {m C : Nat} {kf : Skt} (x : Rn b e h m C kf) (hi : x.i < x.k.ord.length) (hb : 0 ≤ b) (hN : h.length ≤ 1000000000) (hh : HpC h) : Rn b e h m C kf :=
 have hs := yU1 (e := e) x.inv hb hN (hh.at (show (x.k.ord.getD x.i 0).toNat < h.length by have := x.at hi;omega))
 ⟨x.i + 1,x.k.ob b e (h.getD (x.k.ord.getD x.i 0).toNat ob0),hs.inv,by obtain ⟨r,hr⟩ := hs.pre;rw [hr,Ae];omega,by
  have hl := x.inv.len hb;have e1 : Skt.run b e h (h.length - x.i) x.i x.k = Skt.run b e h (h.length - (x.i + 1)) (x.i + 1) (x.k.ob b e (h.getD (x.k.ord.getD x.i 0).toNat ob0)) := by
   rw [show h.length - x.i = (h.length - (x.i + 1)) + 1 by omega,Skt.run,Ab hi]
  exact e1.symm.trans x.eq,by
  obtain ⟨r,hr⟩ := hs.pre;have h1 : ((x.k.ob b e (h.getD (x.k.ord.getD x.i 0).toNat ob0)).ord.take (x.i + 1)) = x.k.ord.take x.i ++ [x.k.ord.getD x.i 0] := by
   rw [hr,List.take_append_of_le_length (by omega),List.take_add_one,Ac hi,Ai,Ac hi];rfl
  rw [h1];have h2 := hs.len;have h3 := x.len;simp only [cOs,Ad,Df,Bh,List.map_nil,Bu,List.sum_nil] at h3 ⊢;omega⟩
theorem Rn.fin {b : Int} {e : Bool} {h : List Ob} {m C : Nat} {kf : Skt} (x : Rn b e h m C kf) (hi : ¬ x.i < x.k.ord.length) : x.k = kf := by
 refine Eq.trans ?_ x.eq
 cases h.length - x.i with
 | zero => rfl
 | succ n => rw [Skt.run,Aa hi]
theorem Rn.bound {b : Int} {e : Bool} {h : List Ob} {m C : Nat} {kf : Skt} (x : Rn b e h m C kf) (hm : (m : Int) ≤ b) (hm2 : m ≤ h.length) : x.k.out.length ≤ C + cH h := Bq x.len (by have := xX0 (i := x.i) x.inv hm hm2;omega)
noncomputable def dG (h : List Ob) (b : Nat) (l : List Vl) : ByteArray := ⟨(Skt.run b true h h.length 0 (Skt.base b true h (Skt.vs b ⟨[],[]⟩ l) (min b h.length))).out.toArray⟩
open Go.RowKit Go.Shelf
theorem tab_pow {w : World} {s : Sb} (hg : Glb w s) : Lib.TabIs Tryz.prog w "internal/strconv.uint64pow10" .u64 Lib.pow10Tab := by
 obtain ⟨G,g1,g2,g3⟩ := hg;have hn : Tryz.prog.globalNamed "internal/strconv.uint64pow10" = some 5 := by kernel_rfl
 have h1 : ∀ i : Nat,i < 20 → w.cell? ⟨5,i,none⟩ = some (.int .u64 (Lib.pow10Tab.getD i 0)) := fun i hi => (g2 _ _ _ (g1.pow10 i hi)).1;have h2 : ∀ o : Nat,20 ≤ o → w.cell? ⟨5,o,none⟩ = none := fun o ho => (g3 _ _ (.pow10 o ho)).1;have hl : Lib.pow10Tab.length = 20 := Lib.pow10Tab_length;unfold Lib.TabIs World.var?;rw [hn];show (match w.heap[5]? with | some (.cells cs _ _) => some cs | _ => none) = _;have h0 := h1 0 (by decide)
 cases hb : w.heap[5]? with
 | none => simp [World.cell?,hb] at h0
 | some o =>
  cases o with
  | cells cs t f =>
   show some cs = some _;congr 1;apply Array.ext_getElem?;intro i;rcases Cc i 20 with hi | hi
   ·have h3 : cs[i]? = some (.int .u64 (Lib.pow10Tab.getD i 0)) := by
     have := h1 i hi;simpa [World.cell?,hb] using this
    rw [h3,Cv,Bm,Ac (by omega),Ai,Ac (by omega)];rfl
   ·have h3 : cs[i]? = none := by
     have := h2 i hi;simpa [World.cell?,hb] using this
    rw [h3,Cv,Bm,Dd (by omega)];rfl
  | _ => simp [World.cell?,hb] at h0
theorem Itoa_ok (n : Int) (h0 : -9223372036854775808 ≤ n) (h1 : n ≤ 9223372036854775807) : Fn Tryz.prog 181 [.v (.int .i64 n)] (.v (.string (itB n))) := by
 refine dO ⟨_,Tryz.func181,rfl,rfl⟩ fun w s vs hg hv => ?_;rw [dS hv];refine (Any.strconv_Itoa Tryz.laysItoa n h0 h1 w (tab_pow hg)).mono ?_;rintro e w' ⟨rfl,k,os,rfl⟩;exact ⟨rfl,Lib.below_grow _ w (Ar _) k os⟩
theorem wE0 {w : World} {s : Sb} {G : Nat → Nat → Option Value} (g2 : ∀ b o v,G b o = some v → w.cell? ⟨b,o,none⟩ = some v ∧ s b o) {g : Nat} {k : IntKind} {t : List Nat} (h : SliG G g k t) : Lib.TabSlice g k t w := by
 obtain ⟨R,o,c,h1,h2⟩ := h;exact ⟨R,o,c,(g2 _ _ _ h1).1,fun j hj => (g2 _ _ _ (h2 j hj)).1⟩
theorem gL0 (s : ByteArray) (hs : s.size ≤ 1000000000) : Fn Tryz.prog 164 [.v (.string s)] (.v (.string (quB s))) := by
 refine dO ⟨_,Tryz.func164,rfl,rfl⟩ fun w s' vs hg hv => ?_;rw [dS hv];obtain ⟨G,g1,g2,_⟩ := hg
 have hT : Lib.PrintTabsAt 6 7 8 9 Lib.goPrintTabs w :=
  ⟨wE0 g2 g1.p16,wE0 g2 g1.n16,wE0 g2 g1.p32,wE0 g2 g1.n32,by decide +kernel,by decide +kernel,by decide +kernel⟩
 have hU : Lib.Utf8Tabs 1 2 w := ⟨fun c hc => (g2 _ _ _ (g1.first c hc)).1,fun i hi => ⟨(g2 _ _ _ (g1.accept i hi).1).1,(g2 _ _ _ (g1.accept i hi).2).1⟩⟩;exact Any.strconv_Quote Tryz.laysQuote (by kernel_rfl) Lib.goPrintTabs s w (by omega) hT hU
variable {md me : Bool}
def skO (md : Bool) (h : List Ob) (b : Int) (k : Skt) : List DOwn := [.box 156 [.sl md 10 h obD ob0,.v (.int .i64 b),.mo 1 k.ord.length,.mo 2 k.out.length],.mrow 3 1 (.map k.ord iD 0),.mrow 5 1 (.map k.out u8D 0)]
theorem tH0 {α : Type} [DecidableEq α] : ∀ (l : List α) (n : α),-1 ≤ ixI l n
 | [],_ => by show (-1 : Int) ≤ -1;omega
 | x :: l,n => by
  have := tH0 l n;rw [ixI];split
  ·omega
  ·split <;> omega
theorem IndexIm_ok (l : List Int) (n : Int) : Fn Tryz.prog 95 [.sl md 1 l iD 0,.v (.int .i64 n)] (.v (.int .i64 (ixI l n))) := by
 refine yL zJ Tryz.func95 rfl rfl rfl rfl rfl rfl ?_;intro w0 s0 mx;refine wQ 0 rfl fun hl0 => ?_;refine zL 100 ?_;refine zB (zL 200 ?_);refine zR ?_;refine yC (ι := Nf l n) [0,1,7] [] 250 (fun x => [(8,.v (.int .i64 x.k))]) (fun _ => []) (fun x => l.length - x.k) ⟨0,Ap _,fun j hj => by omega⟩ ?_;refine ⟨⟨yG,yD,rfl,rfl⟩,fun x => ?_⟩;have hk := x.le;refine zL 300 ?_;refine zB (zZ (fun c2 => ?_) (fun c2 => ?_))
 ·
  refine zN (zA (zB (zR (zL 400 ?_))));refine zL 500 ?_;refine zZ (fun c4 => ?_) (fun c4 => ?_)
  ·
   refine zL 600 ?_;refine zK (zQ (zM (yU (zQ (zM ?_)))));exact FinV.ret rfl (SubP.int (x.found c2 c4).symm)
  ·
   refine zN (zP (zA (yT zJ [] 700 ?_)));exact zV (x.next c2 c4) ⟨yG,yD,rfl,rfl⟩ (by show l.length - (x.k + 1) < l.length - x.k;omega)
 ·
  refine yF (yA (yB (zY (zA (zL 800 ?_)))));refine zK ?_;exact FinV.ret rfl (SubP.int (x.none c2).symm)
theorem jU (h : List Ob) (b : Int) (k : Skt) (s : ByteArray) (hl : k.out.length + s.size ≤ 1073741824) : FnG Tryz.prog 162 [.bp 0 0,.v (.string s)] (skO md h b k) (.v (.tuple #[])) (skO md h b (k.w s)) := by
 refine qS zJ Tryz.func162 rfl rfl rfl rfl rfl rfl rfl ?_;intro w0 s0 mx;refine zE zJ [] 100 rfl ?_;repeat (first | refine zG ?_ | refine zH ?_ | refine zW (by first | (simp only [MR.len];done) | (simp only [MR.len];omega) | exact Dz) ?_)
 refine zC ?_;exact FinH.normal 3 rfl rfl (Sub.refl _) ⟨⟨rfl,Sub.refl _,rfl,Sub.refl _,rfl,Sub.refl _,rfl,Sub.mo (by rw [(gO0 k s).1]),rfl,trivial⟩,SubO.mp rfl,SubO.mp (by show D.pvss (k.out.map u8D ++ s.data.toList.map u8D) = D.pvss ((k.out ++ s.data.toList).map u8D);rw [Ad]),trivial⟩
theorem cU0 {P : Program} {K : DS → Prop} {p : Prop} {r : Out} (hr : r.sat P K) (hp : p := by first | exact Bq (show (itB n).size + 1 ≤ 22 by omega) (by decide) | exact Dz) : (Out.need p r).sat P K := ⟨hp,hr⟩
theorem xO (h : List Ob) (b : Int) (k : Skt) (n : Int) (h0 : -9223372036854775808 ≤ n) (h1 : n ≤ 9223372036854775807) (hl : k.out.length + 22 ≤ 1073741824) : FnG Tryz.prog 163 [.bp 0 0,.v (.int .i64 n)] (skO md h b k) (.v (.tuple #[])) (skO md h b (k.n n)) := by
 have hz := xK0 h0 h1;have hz2 : (itB n ++ sB 32).size ≤ 22 := by rw [Av];show _ + 1 ≤ _;omega
 refine qS zJ Tryz.func163 rfl rfl rfl rfl rfl rfl rfl ?_;intro w0 s0 mx;refine zE zJ [1008] 100 rfl ?_;repeat (first | refine zG ?_ | refine zH ?_ | refine cU0 ?_)
 refine zT _ (Itoa_ok n h0 h1) rfl ?_;repeat (first | refine zG ?_ | refine zH ?_ | refine cU0 ?_)
 refine yK _ _ (jU h b k (itB n ++ sB 32) (by omega)) rfl ?_;repeat (first | refine zG ?_ | refine zH ?_ | refine cU0 ?_)
 refine zC ?_;exact FinH.normal 3 rfl rfl (Sub.refl _) ⟨⟨rfl,Sub.refl _,rfl,Sub.refl _,rfl,Sub.refl _,rfl,Sub.refl _,rfl,trivial⟩,SubO.mp rfl,SubO.mp rfl,trivial⟩
theorem kC (h : List Ob) (b : Int) (k : Skt) (n : Int) (h0 : -9223372036854775808 ≤ n) (h1 : n ≤ 9223372036854775807) (hl : k.out.length + 23 ≤ 1073741824) (ho : k.ord.length ≤ 1000000000) : FnG Tryz.prog 165 [.bp 0 0,.v (.int .i64 n)] (skO md h b k) (.v (.tuple #[])) (skO md h b (k.see b n)) := by
 have hix := zT0 k.ord n;have hix2 := tH0 k.ord n;refine qS zJ Tryz.func165 rfl rfl rfl rfl rfl rfl rfl ?_;intro w0 s0 mx;refine zB (zL 100 ?_);refine zZ (fun c0 => ?_) (fun c0 => ?_)
 ·
  refine zB (zE zJ [1012] 200 rfl ?_);refine zF ?_;refine yK _ _ (jU h b k (sB 35) (by show k.out.length + 1 ≤ _;omega)) rfl ?_;refine zF ?_;refine zC (zA ?_);refine yH [0,1] [] 210 [] [(0,.box 156 [.sl md 10 h obD ob0,.v (.int .i64 b),.mo 1 (k.w (sB 35)).ord.length,.mo 2 (k.w (sB 35)).out.length]),(1,.mrow 3 1 (.map (k.w (sB 35)).ord iD 0)),(2,.mrow 5 1 (.map (k.w (sB 35)).out u8D 0))] ?_;refine ⟨⟨yG,⟨⟨rfl,Sub.refl _,rfl,Sub.refl _,rfl,Sub.mo (by simp [Skt.w,Skt.n]),rfl,Sub.mo (by simp [Skt.w,Skt.n]),rfl,trivial⟩,SubO.mp rfl,SubO.mp rfl,yD⟩,rfl,rfl⟩,?_⟩;refine zB (zE zJ [1015] 300 rfl ?_);refine zF ?_;refine yK _ _ (xO h b (k.w (sB 35)) n h0 h1 (by rw [(gO0 _ _).1];show k.out.length + 1 + 22 ≤ _;omega)) rfl ?_;refine zF ?_;refine zC (zA (zK (zM ?_)));rw [show k.see b n = (k.w (sB 35)).n n from Ab c0];exact FinH.ret 3 rfl rfl (Sub.refl _) ⟨⟨rfl,Sub.refl _,rfl,Sub.refl _,rfl,Sub.refl _,rfl,Sub.refl _,rfl,trivial⟩,SubO.mp rfl,SubO.mp rfl,trivial⟩
 ·
  refine zN (zA ?_);refine zB (zE zJ [] 400 rfl ?_);refine zF ?_;refine yN _ (IndexIm_ok k.ord n) rfl rfl ?_;refine zF ?_;refine zC (zA (zB (zL 500 ?_)));refine zZ (fun c4 => ?_) (fun c4 => ?_)
  ·
   refine zL 600 ?_;refine zE zJ [] 700 rfl ?_;repeat (first | refine zG ?_ | refine zH ?_ | refine zW (by first | rfl | (simp only [MR.len,Ao,Ak,Aq];omega) | exact Dz) ?_)
   refine zC (zA ?_);refine yH [0,4] [] 710 [] [(0,.box 156 [.sl md 10 h obD ob0,.v (.int .i64 b),.mo 1 ((⟨k.ord ++ [n],k.out⟩ : Skt)).ord.length,.mo 2 ((⟨k.ord ++ [n],k.out⟩ : Skt)).out.length]),(1,.mrow 3 1 (.map ((⟨k.ord ++ [n],k.out⟩ : Skt)).ord iD 0)),(2,.mrow 5 1 (.map ((⟨k.ord ++ [n],k.out⟩ : Skt)).out u8D 0))] ?_;refine ⟨⟨yG,⟨⟨rfl,Sub.refl _,rfl,Sub.refl _,rfl,Sub.mo (by simp),rfl,Sub.mo (by simp),rfl,trivial⟩,SubO.mp (by show D.pvss (k.ord.map iD ++ [iD n]) = D.pvss ((k.ord ++ [n]).map iD);rw [Ad];rfl),SubO.mp rfl,yD⟩,rfl,rfl⟩,?_⟩;refine zB (zE zJ [1040] 800 rfl ?_);refine zF ?_;refine yK _ _ (jU h b (⟨k.ord ++ [n],k.out⟩ : Skt) (sB 64) (by show k.out.length + 1 ≤ _;omega)) rfl ?_;refine zF ?_;refine zC (zA ?_);refine yH [0,4] [] 810 [] [(0,.box 156 [.sl md 10 h obD ob0,.v (.int .i64 b),.mo 1 ((⟨k.ord ++ [n],k.out⟩ : Skt).w (sB 64)).ord.length,.mo 2 ((⟨k.ord ++ [n],k.out⟩ : Skt).w (sB 64)).out.length]),(1,.mrow 3 1 (.map ((⟨k.ord ++ [n],k.out⟩ : Skt).w (sB 64)).ord iD 0)),(2,.mrow 5 1 (.map ((⟨k.ord ++ [n],k.out⟩ : Skt).w (sB 64)).out u8D 0))] ?_;refine ⟨⟨yG,⟨⟨rfl,Sub.refl _,rfl,Sub.refl _,rfl,Sub.mo (by simp [Skt.w,Skt.n]),rfl,Sub.mo (by simp [Skt.w,Skt.n]),rfl,trivial⟩,SubO.mp rfl,SubO.mp rfl,yD⟩,rfl,rfl⟩,?_⟩;refine zE zJ [1043] 900 rfl ?_;refine zF ?_;refine yK _ _ (xO h b ((⟨k.ord ++ [n],k.out⟩ : Skt).w (sB 64)) (k.ord.length : Nat) (by omega) (by omega) (by rw [(gO0 _ _).1];show k.out.length + 1 + 22 ≤ _;omega)) rfl ?_;refine zF ?_;refine zC ?_;rw [show k.see b n = ((⟨k.ord ++ [n],k.out⟩ : Skt).w (sB 64)).n (k.ord.length : Nat) from (Aa (Int.not_lt.2 c0)).trans (Ab c4)];exact FinH.normal 3 rfl rfl (Sub.refl _) ⟨⟨rfl,Sub.refl _,rfl,Sub.refl _,rfl,Sub.refl _,rfl,Sub.refl _,rfl,trivial⟩,SubO.mp rfl,SubO.mp rfl,trivial⟩
  ·
   refine zN (zA ?_);refine zB (zE zJ [1040] 800 rfl ?_);refine zF ?_;refine yK _ _ (jU h b k (sB 64) (by show k.out.length + 1 ≤ _;omega)) rfl ?_;refine zF ?_;refine zC (zA ?_);refine yH [0,4] [] 810 [] [(0,.box 156 [.sl md 10 h obD ob0,.v (.int .i64 b),.mo 1 (k.w (sB 64)).ord.length,.mo 2 (k.w (sB 64)).out.length]),(1,.mrow 3 1 (.map (k.w (sB 64)).ord iD 0)),(2,.mrow 5 1 (.map (k.w (sB 64)).out u8D 0))] ?_;refine ⟨⟨yG,⟨⟨rfl,Sub.refl _,rfl,Sub.refl _,rfl,Sub.mo (by simp [Skt.w,Skt.n]),rfl,Sub.mo (by simp [Skt.w,Skt.n]),rfl,trivial⟩,SubO.mp rfl,SubO.mp rfl,yD⟩,rfl,rfl⟩,?_⟩;refine zE zJ [1043] 900 rfl ?_;refine zF ?_;refine yK _ _ (xO h b (k.w (sB 64)) (ixI k.ord n) (by omega) (by omega) (by rw [(gO0 _ _).1];show k.out.length + 1 + 22 ≤ _;omega)) rfl ?_;refine zF ?_;refine zC ?_;rw [show k.see b n = (k.w (sB 64)).n (ixI k.ord n) from (Aa (Int.not_lt.2 c0)).trans (Aa (Int.not_lt.2 c4))];exact FinH.normal 3 rfl rfl (Sub.refl _) ⟨⟨rfl,Sub.refl _,rfl,Sub.refl _,rfl,Sub.refl _,rfl,Sub.refl _,rfl,trivial⟩,SubO.mp rfl,SubO.mp rfl,trivial⟩
variable {md me : Bool}
theorem Halve3_ok (a : Nat) (ha : (dig a).length ≤ 10000000) : Fn Tryz.prog 172 [natD a,.v (.int .i64 16)] (.tup [natD (a / 16),.v (.int .i64 ((a % 16 : Nat) : Int))]) := gG a 16 (by decide) ha
variable {md me : Bool}
structure Fg (a : Nat) where
 y : Nat
 o : List Nat
 eq : o ++ hxL y = hxL a
 le : y ≤ a
def Fg.next {a : Nat} (x : Fg a) (h : x.y ≠ 0) : Fg a := ⟨x.y / 16,x.o ++ [x.y % 16],by rw [Co,List.singleton_append,← zY0 h];exact x.eq,Bq (Nat.div_le_self _ _) x.le⟩
theorem dig_ne {y : Nat} (h : 0 < (dig y).length) : y ≠ 0 := by
 rintro rfl;exact absurd h (by decide +kernel)
theorem dig_eq0 {y : Nat} (h : ¬ 0 < (dig y).length) : y = 0 := by
 have e : dig y = [] := Bk (by omega);have := gD y;rw [e] at this;exact this.symm
theorem Fg.len {a : Nat} (x : Fg a) : x.o.length ≤ (hxL a).length := by rw [← x.eq,Ae];omega
theorem tK0 (a : Nat) : (hxL a).length ≤ 4 * (dig a).length := vA0 (by
 have h := V_lt (cQ a);rw [gD] at h;rw [show (16 : Nat) ^ (4 * (dig a).length) = 65536 ^ (dig a).length by rw [Nat.pow_mul]];exact h)
theorem wL0 {l : List Nat} {k : Nat} (h : 0 < k) (hk : k ≤ l.length) : (l.drop (k - 1)).reverse.map nD = (l.drop k).reverse.map nD ++ [nD (l.getD (k - 1) 0)] := by
 rw [Dk (show k - 1 < l.length by omega),List.reverse_cons,Ad,show k - 1 + 1 = k by omega,Ai,Ac (show k - 1 < l.length by omega)];rfl
theorem yN1 {P : Program} {K : DS → Prop} {p : Prop} {r : Out} (hr : r.sat P K) (hp : p := by first | rfl | (simp only [Ao,Dx,Bf,Ak,Aq];omega) | exact ⟨by omega,by rw [hkz];omega⟩ | exact Dz) : (Out.need p r).sat P K := ⟨hp,hr⟩
theorem Figures3_ok (a : Nat) (ha : (dig a).length ≤ 10000000) : FnO Tryz.prog 191 [natD a,.v (.int .i64 16)] 3 1 ((hxL a).reverse.map nD) := by
 have hxd := tK0 a;refine pY Tryz.func191 rfl rfl rfl rfl rfl rfl ?_;intro w0 s0 mx;refine zL 100 ?_;refine zL 200 ?_;refine yW 5 3 1 rfl ?_;refine zB (zR ?_);refine yC (ι := Fg a) [1] [] 250 (fun x => [(0,natD x.y),(5,.own 200 1 (x.o.map nD))]) (fun x => [(200,.row 3 1 (x.o.map nD).length)]) (fun x => x.y) ⟨a,[],rfl,Ar _⟩ ?_;refine ⟨⟨yG,yD,rfl,rfl⟩,fun x => ?_⟩;have hol := x.len;refine zB (zL 300 ?_);refine zS rfl (fun c2 => ?_) (fun c2 => ?_)
 ·have hne : x.y ≠ 0 := dig_ne (by simpa using c2);refine zN (zA (zR (zL 400 ?_)));refine zB (zE zJ [] 500 rfl ?_);refine zF ?_;refine zT _ (Halve3_ok x.y (by have := qA x.le;omega)) rfl ?_;refine zF ?_;refine zC (zA ?_);refine zE zJ [] 600 rfl ?_;repeat (first | refine zG ?_ | refine zH ?_ | refine yN1 ?_)
  refine zC (zP ?_);exact zV (x.next hne) ⟨⟨Sub.refl _,Sub.own (by show _ = (x.o ++ [x.y % 16]).map nD;rw [Ad];rfl),yG⟩,⟨⟨rfl,rfl,by show _ = ((x.o ++ [x.y % 16]).map nD).length;rw [Ad];rfl⟩,yD⟩,rfl,rfl⟩ (by show x.y / 16 < x.y;omega)
 ·have h0 : x.y = 0 := dig_eq0 (by simpa using c2);have hoe : x.o = hxL a := by have := x.eq;rwa [h0,mH,Cx] at this
  refine yF (yA (yB (zY (zA (zL 700 ?_)))));refine yW 7 3 1 rfl ?_;refine zB ?_;refine zB (zE zJ [] 800 rfl ?_);repeat (first | refine zG ?_ | refine zH ?_ | refine zW (by first | exact ini (by rw [Ao];omega) (by rw [Ao];omega) | exact Dz) ?_)
  refine zC (zA (zR ?_));refine yC (ι := {k : Nat // k ≤ x.o.length}) [] [] 850 (fun z => [(8,.v (.int .i64 ((z.1 : Int) - 1))),(5,.sl false 1 x.o nD 0),(7,.own 700 1 ((x.o.drop z.1).reverse.map nD))]) (fun z => [(700,.row 3 1 ((x.o.drop z.1).reverse.map nD).length)]) (fun z => z.1) ⟨x.o.length,Ar _⟩ ?_;refine ⟨⟨⟨Sub.int (by simp),Sub.ownSl rfl,Sub.own (by rw [List.drop_length];rfl),yG⟩,⟨⟨rfl,rfl,by rw [List.drop_length];rfl⟩,yD⟩,rfl,rfl⟩,fun z => ?_⟩;have hz : z.1 ≤ x.o.length := z.2;have hkz : ((z.1 : Int) - 1).toNat = z.1 - 1 := by omega
  refine zB (zL 900 ?_);refine zZ (fun c8 => ?_) (fun c8 => ?_)
  ·
   refine zN (zA (zB (zR ?_)));refine zE zJ [] 1100 rfl ?_;repeat (first | refine zG ?_ | refine zH ?_ | refine yN1 ?_)
   refine zC (zP (zA (yT zJ [] 1200 ?_)));exact zV ⟨z.1 - 1,by omega⟩ ⟨⟨Sub.int (by show (z.1 : Int) - 1 - 1 = ((z.1 - 1 : Nat) : Int) - 1;omega),Sub.refl _,Sub.own (by rw [wL0 (by omega) hz,hkz];rfl),yG⟩,⟨⟨rfl,rfl,by rw [wL0 (by omega) hz];simp only [Ae];rfl⟩,yD⟩,rfl,rfl⟩ (by show z.1 - 1 < z.1;omega)
  ·
   refine yF (yA (yB (zY (zA (zL 1200 ?_)))));refine zK ?_;have hz0 : z.1 = 0 := by omega
   exact FinO.ret rfl rfl rfl (by rw [hz0,List.drop_zero,hoe])
variable {md me : Bool}
def txL (b : Bool) (a i : Nat) : List UInt8 := (if b = true then [45] else []) ++ ((hxL a).reverse.take i).map fun d => UInt8.ofNat (bAt alB d)
theorem hxL_ne {a : Nat} (h : ¬ hxL a = []) : ¬ a = 0 := by
 rintro rfl;exact h mH
theorem hxL_e {a : Nat} (h : hxL a = []) : a = 0 := by
 by_cases h0 : a = 0
 ·exact h0
 ·rw [zY0 h0] at h;cases h
theorem pG0 {b : Bool} {a : Nat} (h : ¬ a = 0) : hxS b a = ⟨(txL b a (hxL a).length).toArray⟩ := by
 unfold hxS txL;rw [Aa h,An (by rw [Dx];exact Ar _)]
theorem yY1 {a i : Nat} (h : i < (hxL a).length) : (hxL a).reverse.getD i 0 < 16 := by
 rw [Ai,Ac (by rw [Dx];exact h)];exact tL0 (n := a + 1) (x := a) (by omega) (List.mem_reverse.1 (Ca _))
theorem u8_bAt (s : ByteArray) (d : Nat) : [D.v (.int .u8 ((bAt s d : Nat) : Int))] = u8D (UInt8.ofNat (bAt s d)) := by
 have h := bAt_lt s d;show _ = [D.v (.int .u8 (((UInt8.ofNat (bAt s d)).toNat : Nat) : Int))];have e : (UInt8.ofNat (bAt s d)).toNat = bAt s d := by simp;omega
 rw [e]
theorem kO0 (b : Bool) (a : Nat) {i : Nat} (h : i ≤ (hxL a).length) : (txL b a i).length ≤ i + 1 := by
 unfold txL;rw [Ae,Ao,Au,Dx];have : (if b = true then [(45 : UInt8)] else []).length ≤ 1 := by split <;> decide
 omega
theorem zH0 {b : Bool} {a i : Nat} (h : i < (hxL a).length) : txL b a (i + 1) = txL b a i ++ [UInt8.ofNat (bAt alB ((hxL a).reverse.getD i 0))] := by
 unfold txL;rw [Co,List.take_add_one,Ad,Ac (by rw [Dx];exact h),Ai,Ac (by rw [Dx];exact h)];rfl
theorem vX0 {b : Bool} {a i : Nat} (h : i < (hxL a).length) : (txL b a i).map u8D ++ [[D.v (.int .u8 ((bAt alB ((hxL a).reverse.getD i 0) : Nat) : Int))]] = (txL b a (i + 1)).map u8D := by
 rw [zH0 h,Ad,u8_bAt];rfl
theorem gJ0 : alB.size = 36 := rfl
theorem yM1 {P : Program} {K : DS → Prop} {p : Prop} {r : Out} (hr : r.sat P K) (hp : p := by first | (refine ⟨by omega,?_⟩;show _ < 36;omega) | (simp only [Ao,Dx];omega) | (simp only [MR.len,Ao];done) | (rw [MR.len];omega) | (show _ < alB.size;rw [gJ0];omega) | (rw [gJ0];omega) | exact Dz) : (Out.need p r).sat P K := ⟨hp,hr⟩
theorem yL1 {P : Program} {K : DS → Prop} {p : Prop} {r : Out} (hr : r.sat P K) (hp : p := by first | rfl | exact (congrArg (List.map u8D) (xQ _)).symm | exact Dz) : (Out.need p r).sat P K := ⟨hp,hr⟩
theorem cX (b : Bool) (a : Nat) (ha : (dig a).length ≤ 10000000) : Fn Tryz.prog 179 [rD b a,.v (.int .i64 16)] (.v (.string (hxS b a))) := by
 have hxd := tK0 a;refine yL zJ Tryz.func179 rfl rfl rfl rfl rfl rfl ?_;intro w0 s0 mx;refine zL 100 ?_;refine zB (zE zJ [12] 200 rfl ?_);refine zF ?_;refine qK _ _ _ (Figures3_ok a ha) ?_;refine zF ?_;refine zC (zA (zB (zL 300 ?_)));refine zS rfl (fun c2 => ?_) (fun c2 => ?_)
 ·have he : a = 0 := hxL_e (by simpa using c2);refine zL 400 ?_;refine zK (zM ?_);exact FinV.ret rfl (SubP.str (by rw [he];rfl))
 ·have he : ¬ a = 0 := hxL_ne (by simpa using c2);refine zN (zA (zL 500 ?_));refine zB (zL 600 ?_);refine zZ (fun c5 => ?_) (fun c5 => ?_)
  ·
   refine yT zJ [] 700 ?_;refine zA ?_;refine zB (zE zJ [1019] 800 rfl ?_);repeat (first | refine zG ?_ | refine zH ?_ | refine zW (by first | decide | exact Dz) ?_)
   refine zC (zA (zB (zL 900 ?_)));refine zR ?_;refine yC (ι := {i : Nat // i ≤ (hxL a).length}) [] [] 950 (fun x => [(8,.v (.int .i64 x.1)),(7,.mo 701 (txL b a x.1).length),(5,.sl false 1 (hxL a).reverse nD 0)]) (fun x => [(701,.mrow 5 1 (.map (txL b a x.1) u8D 0))]) (fun x => (hxL a).length - x.1) ⟨0,Ap _⟩ ?_;refine ⟨⟨⟨Sub.int rfl,Sub.mo (by simp [txL,c5];try rfl),Sub.ownSl rfl,yG⟩,⟨SubO.mp (by simp [txL,c5];try rfl),yD⟩,rfl,rfl⟩,fun x => ?_⟩;have hk : x.1 ≤ (hxL a).length := x.2;have htl := kO0 b a hk;refine zB (zL 1000 ?_);refine zS rfl (fun c9 => ?_) (fun c9 => ?_)
   ·have hlt : x.1 < (hxL a).length := by simpa using c9
    have h16 : (hxL a).reverse.getD ((x.1 : Nat) : Int).toNat 0 < 16 := yY1 hlt;refine zN (zA (zB (zR ?_)));refine zE zJ [] 1200 rfl ?_;repeat (first | refine zG ?_ | refine zH ?_ | refine yM1 ?_)
    refine zC (zP (zA (yT zJ [] 1300 ?_)));exact zV ⟨x.1 + 1,by omega⟩ ⟨⟨Sub.int (by push_cast;rfl),Sub.mo (by show (txL b a x.1).length + 1 = _;rw [zH0 hlt,Ae];rfl),Sub.refl _,yG⟩,⟨SubO.mr (vX0 hlt),yD⟩,rfl,rfl⟩ (by show (hxL a).length - (x.1 + 1) < (hxL a).length - x.1;omega)
   ·have hlt : x.1 = (hxL a).length := by simp at c9;omega
    refine yF (yA (yB (zY (zA ?_))));refine uQ 701 rfl (by repeat (first | exact trivial | exact rfl | refine ⟨?_,?_⟩)) (by repeat (first | exact trivial | refine ⟨?_,?_⟩)) ?_;refine zB (zE zJ [] 1300 rfl ?_);repeat (first | refine zG ?_ | refine zH ?_ | refine yL1 ?_)
    refine zC (zA (zK ?_));exact FinV.ret rfl (SubP.str (by rw [pG0 he,← congrArg (txL b a) hlt];exact congrArg (fun l : List UInt8 => (⟨l.toArray⟩ : ByteArray)) (xQ _)))
  ·
   refine zN (zA ?_);refine zB (zE zJ [1019] 800 rfl ?_);repeat (first | refine zG ?_ | refine zH ?_ | refine zW (by first | decide | exact Dz) ?_)
   refine zC (zA (zB (zL 900 ?_)));refine zR ?_;refine yC (ι := {i : Nat // i ≤ (hxL a).length}) [] [] 950 (fun x => [(8,.v (.int .i64 x.1)),(7,.mo 601 (txL b a x.1).length),(5,.sl false 1 (hxL a).reverse nD 0)]) (fun x => [(601,.mrow 5 1 (.map (txL b a x.1) u8D 0))]) (fun x => (hxL a).length - x.1) ⟨0,Ap _⟩ ?_;refine ⟨⟨⟨Sub.int rfl,Sub.mo (by simp [txL,c5];try rfl),Sub.ownSl rfl,yG⟩,⟨SubO.mp (by simp [txL,c5];try rfl),yD⟩,rfl,rfl⟩,fun x => ?_⟩;have hk : x.1 ≤ (hxL a).length := x.2;have htl := kO0 b a hk;refine zB (zL 1000 ?_);refine zS rfl (fun c9 => ?_) (fun c9 => ?_)
   ·have hlt : x.1 < (hxL a).length := by simpa using c9
    have h16 : (hxL a).reverse.getD ((x.1 : Nat) : Int).toNat 0 < 16 := yY1 hlt;refine zN (zA (zB (zR ?_)));refine zE zJ [] 1200 rfl ?_;repeat (first | refine zG ?_ | refine zH ?_ | refine yM1 ?_)
    refine zC (zP (zA (yT zJ [] 1300 ?_)));exact zV ⟨x.1 + 1,by omega⟩ ⟨⟨Sub.int (by push_cast;rfl),Sub.mo (by show (txL b a x.1).length + 1 = _;rw [zH0 hlt,Ae];rfl),Sub.refl _,yG⟩,⟨SubO.mr (vX0 hlt),yD⟩,rfl,rfl⟩ (by show (hxL a).length - (x.1 + 1) < (hxL a).length - x.1;omega)
   ·have hlt : x.1 = (hxL a).length := by simp at c9;omega
    refine yF (yA (yB (zY (zA ?_))));refine uQ 601 rfl (by repeat (first | exact trivial | exact rfl | refine ⟨?_,?_⟩)) (by repeat (first | exact trivial | refine ⟨?_,?_⟩)) ?_;refine zB (zE zJ [] 1300 rfl ?_);repeat (first | refine zG ?_ | refine zH ?_ | refine yL1 ?_)
    refine zC (zA (zK ?_));exact FinV.ret rfl (SubP.str (by rw [pG0 he,← congrArg (txL b a) hlt];exact congrArg (fun l : List UInt8 => (⟨l.toArray⟩ : ByteArray)) (xQ _)))
variable {md me : Bool}
theorem yB0 {α : Type} {b : Int} {N : Nat} {f : Skt → α → Skt} {c : α → Nat} {P : α → Prop} (d : α) (hf : ∀ k a,SkI b N k → P a → SkS b N k (f k a) (c a)) :
  ∀ {l : List α} {k : Skt} {i : Nat},SkI b N k → (∀ a ∈ l,P a) → i < l.length →
  SkI b N ((l.take i).foldl f k) ∧ ((l.take i).foldl f k).out.length + c (l.getD i d) ≤ k.out.length + (l.map c).sum ∧ P (l.getD i d) ∧ (l.take (i + 1)).foldl f k = f ((l.take i).foldl f k) (l.getD i d)
 | [],_,_,_,_,h => absurd h (Nat.not_lt_zero _)
 | a :: l,k,0,hk,hl,_ => by
  refine ⟨hk,?_,hl a Ay,rfl⟩;show k.out.length + c a ≤ k.out.length + ((a :: l).map c).sum;rw [Bh,Bu];omega
 | a :: l,k,i + 1,hk,hl,h => by
  have hs := hf k a hk (hl a Ay);obtain ⟨h1,h2,h3,h4⟩ := yB0 d hf (l := l) (k := f k a) (i := i) hs.inv (fun x hx => hl x (Az _ hx)) (by rw [Ak] at h;omega);have h5 := hs.len;refine ⟨h1,?_,h3,h4⟩;show ((l.take i).foldl f (f k a)).out.length + c (l.getD i d) ≤ k.out.length + ((a :: l).map c).sum;rw [Bh,Bu];omega
theorem vl_st {b : Int} {N : Nat} (hb : 0 ≤ b) (hN : N ≤ 1000000000) {l : List Vl} {k : Skt} {i : Nat} (hk : SkI b N k) (hl : ∀ a ∈ l,VlC N a) (hi : i < l.length) :
  SkI b N ((l.take i).foldl (Skt.v b) k) ∧ ((l.take i).foldl (Skt.v b) k).out.length + cV (l.getD i vl0) ≤ k.out.length + (l.map cV).sum ∧ VlC N (l.getD i vl0) ∧ (l.take (i + 1)).foldl (Skt.v b) k = ((l.take i).foldl (Skt.v b) k).v b (l.getD i vl0) :=
 yB0 (b := b) (N := N) (f := Skt.v b) (c := cV) (P := VlC N) vl0 (fun _ _ h1 h2 => v_ok h1 hb hN h2) hk hl hi
theorem sB1 (n : UInt8) : (sB n).size = 1 := rfl
theorem lit1 (n : UInt8) : (⟨#[n]⟩ : ByteArray).size = 1 := rfl
theorem uP0 {P : Program} {K : DS → Prop} {p : Prop} {r : Out} (hr : r.sat P K) (hp : p := by first | (simp only [Av,lit1];omega) | exact Dz) : (Out.need p r).sat P K := ⟨hp,hr⟩
theorem skVal_G (h : List Ob) (b : Int) (k : Skt) (v : Vl) (hv : VlIn v) (hl : k.out.length + cV v ≤ 1073741824) (ho : k.ord.length ≤ 1000000000) : FnG Tryz.prog 161 [.bp 0 0,.agg (vlD v)] (skO md h b k) (.v (.tuple #[])) (skO md h b (k.v b v)) := by
 have hq := dK v.s;have hx1 := dN (b := v.nn) hv.nl;have hx2 := dN (b := v.dn) hv.dl;have hT := vU0 hv;have hs1 := hv.s;have hs2 := hv.nn;have hs3 := hv.dn;have hd1 := dP0 hv.nl;have hd2 := dP0 hv.dl;have hc : cV v = 60 + 10 * v.s.size + 8 * v.nl.length + 8 * v.dl.length := rfl;have e1 := (zA1 (k := k) hv.k1 hv.k2).1;have e2 := (zA1 (k := k.n v.k) hv.r1 hv.r2).1;refine qS zJ Tryz.func161 rfl rfl rfl rfl rfl rfl rfl ?_;intro w0 s0 mx;refine zL 100 ?_;refine zB (zL 200 ?_);refine zZ (fun c1 => ?_) (fun c1 => ?_)
 ·
  refine zB (zE zJ [1010] 300 rfl ?_);refine zF ?_;refine yK _ _ (kC h b k v.r hv.r1 hv.r2 (by omega) ho) rfl ?_;refine zF ?_;refine zC (zA (zK (zM ?_)));rw [show k.v b v = k.see b v.r from Ab c1];exact FinH.ret 3 rfl rfl (Sub.refl _) ⟨⟨rfl,Sub.refl _,rfl,Sub.refl _,rfl,Sub.refl _,rfl,Sub.refl _,rfl,trivial⟩,SubO.mp rfl,SubO.mp rfl,trivial⟩
 ·
  refine zN (zA ?_);refine zB (zE zJ [1014] 400 rfl ?_);refine zF ?_;refine yK _ _ (xO h b k v.k hv.k1 hv.k2 (by omega)) rfl ?_;refine zF ?_;refine zC (zA ?_);refine yH [0,3] [3] 410 [] [(0,.box 156 [.sl md 10 h obD ob0,.v (.int .i64 b),.mo 1 (k.n v.k).ord.length,.mo 2 (k.n v.k).out.length]),(1,.mrow 3 1 (.map (k.n v.k).ord iD 0)),(2,.mrow 5 1 (.map (k.n v.k).out u8D 0))] ?_;refine ⟨⟨yG,⟨⟨rfl,Sub.refl _,rfl,Sub.refl _,rfl,Sub.mo (by simp [Skt.w,Skt.n]),rfl,Sub.mo (by simp [Skt.w,Skt.n]),rfl,trivial⟩,SubO.mp rfl,SubO.mp rfl,yD⟩,rfl,rfl⟩,?_⟩;refine zB (zE zJ [1018] 500 rfl ?_);refine zF ?_;refine yK _ _ (xO h b (k.n v.k) v.r hv.r1 hv.r2 (by omega)) rfl ?_;refine zF ?_;refine zC (zA ?_);refine yH [0,3] [3] 510 [] [(0,.box 156 [.sl md 10 h obD ob0,.v (.int .i64 b),.mo 1 ((k.n v.k).n v.r).ord.length,.mo 2 ((k.n v.k).n v.r).out.length]),(1,.mrow 3 1 (.map ((k.n v.k).n v.r).ord iD 0)),(2,.mrow 5 1 (.map ((k.n v.k).n v.r).out u8D 0))] ?_;refine ⟨⟨yG,⟨⟨rfl,Sub.refl _,rfl,Sub.refl _,rfl,Sub.mo (by simp [Skt.w,Skt.n]),rfl,Sub.mo (by simp [Skt.w,Skt.n]),rfl,trivial⟩,SubO.mp rfl,SubO.mp rfl,yD⟩,rfl,rfl⟩,?_⟩;refine zU zJ [1036] [[],[],[1],[1,2],[1,2,3],[],[5],[1,2,3,5,6],[1,2,3,5,6,7],[1,2,3,4,5,6,7,8],[1,2,3,4,5,6,7,8,9],[],[11],[1,2,3,5,6,7,8,11,12],[1,2,3,5,6,7,8,11,12,13],[1,2,3,4,5,6,7,8,9,10,11,12,13,14],[1,2,3,4,5,6,7,8,9,10,11,12,13,14,15],(rgN 17)] 600 yP (by kernel_rfl) rfl ?_;repeat (first | refine zG ?_ | refine zH ?_ | refine uP0 ?_)
  refine zT _ (gL0 v.s (by omega)) rfl ?_;repeat (first | refine zG ?_ | refine zH ?_ | refine uP0 ?_)
  refine zT _ (uC0 v.nn v.nl hv.nl (by omega)) rfl ?_;repeat (first | refine zG ?_ | refine zH ?_ | refine uP0 ?_)
  refine zT _ (cX v.nn (VL v.nl) (by omega)) rfl ?_;repeat (first | refine zG ?_ | refine zH ?_ | refine uP0 ?_)
  refine zT _ (uC0 v.dn v.dl hv.dl (by omega)) rfl ?_;repeat (first | refine zG ?_ | refine zH ?_ | refine uP0 ?_)
  refine zT _ (cX v.dn (VL v.dl) (by omega)) rfl ?_;repeat (first | refine zG ?_ | refine zH ?_ | refine uP0 ?_)
  refine yK _ _ (jU h b ((k.n v.k).n v.r) (vlT v) (by omega)) rfl ?_;repeat (first | refine zG ?_ | refine zH ?_ | refine uP0 ?_)
  refine zC ?_;rw [show k.v b v = ((k.n v.k).n v.r).w (vlT v) from Aa c1];exact FinH.normal 3 rfl rfl (Sub.refl _) ⟨⟨rfl,Sub.refl _,rfl,Sub.refl _,rfl,Sub.refl _,rfl,Sub.refl _,rfl,trivial⟩,SubO.mp rfl,SubO.mp rfl,trivial⟩
theorem kW (h : List Ob) (b : Int) (N : Nat) (k : Skt) (l : List Vl) (hb : 0 ≤ b) (hN0 : N ≤ 1000000000) (hk : SkI b N k) (hv : ∀ a ∈ l,VlC N a) (hl : k.out.length + cVs l ≤ 1073741824) (hll : l.length ≤ 2000000) : FnG Tryz.prog 140 [.bp 0 0,.sl false 7 l vlD vl0] (skO md h b k) (.v (.tuple #[])) (skO md h b (k.vs b l)) := by
 have hc : cVs l = (l.map cV).sum + 1 := rfl;refine qS zJ Tryz.func140 rfl rfl rfl rfl rfl rfl rfl ?_;intro w0 s0 mx;refine wQ 1 rfl fun hl1 => ?_;refine zB (zL 100 ?_);refine zR ?_;refine yC (ι := {i : Nat // i ≤ l.length}) [0,6,7] [] 150 (fun x => [(8,.v (.int .i64 x.1))]) (fun x => [(0,.box 156 [.sl md 10 h obD ob0,.v (.int .i64 b),.mo 1 (((l.take x.1).foldl (Skt.v b) k)).ord.length,.mo 2 (((l.take x.1).foldl (Skt.v b) k)).out.length]),(1,.mrow 3 1 (.map (((l.take x.1).foldl (Skt.v b) k)).ord iD 0)),(2,.mrow 5 1 (.map (((l.take x.1).foldl (Skt.v b) k)).out u8D 0))]) (fun x => l.length - x.1) ⟨0,Ap _⟩ ?_;refine ⟨⟨⟨Sub.int rfl,yG⟩,⟨⟨rfl,Sub.refl _,rfl,Sub.refl _,rfl,Sub.mo (by simp [Skt.w,Skt.n]),rfl,Sub.mo (by simp [Skt.w,Skt.n]),rfl,trivial⟩,SubO.mp rfl,SubO.mp rfl,yD⟩,rfl,rfl⟩,fun x => ?_⟩;have hk0 : x.1 ≤ l.length := x.2;refine zL 200 ?_;refine zB (zS rfl (fun c1 => ?_) (fun c1 => ?_))
 ·have hlt : x.1 < l.length := by simpa using c1
  obtain ⟨hI,hL,hP,hN⟩ := vl_st hb hN0 hk hv hlt;have hI2 := hI.len hb;refine zN (zA (zB (zR (zL 300 ?_))));refine zE zJ [1014] 400 rfl ?_;refine zF ?_;refine yK _ _ (skVal_G h b ((l.take x.1).foldl (Skt.v b) k) (l.getD x.1 vl0) hP.vin (by omega) (by omega)) rfl ?_;refine zF ?_;refine zC (zP (zA (yT zJ [] 500 ?_)));exact zV ⟨x.1 + 1,by omega⟩ ⟨⟨Sub.int (by push_cast;rfl),yG⟩,⟨⟨rfl,Sub.refl _,rfl,Sub.refl _,rfl,Sub.mo (congrArg (fun k : Skt => k.ord.length) hN).symm,rfl,Sub.mo (congrArg (fun k : Skt => k.out.length) hN).symm,rfl,trivial⟩,SubO.mp (congrArg (fun k : Skt => D.pvss (k.ord.map iD)) hN).symm,SubO.mp (congrArg (fun k : Skt => D.pvss (k.out.map u8D)) hN).symm,yD⟩,rfl,rfl⟩ (by show l.length - (x.1 + 1) < l.length - x.1;omega)
 ·have hke : x.1 = l.length := by simp at c1;omega
  have htk : l.take x.1 = l := An (by omega);refine yF (yA (yB (zY (zA ?_))));refine yH [0] [] 210 [] [(0,.box 156 [.sl md 10 h obD ob0,.v (.int .i64 b),.mo 1 (l.foldl (Skt.v b) k).ord.length,.mo 2 (l.foldl (Skt.v b) k).out.length]),(1,.mrow 3 1 (.map (l.foldl (Skt.v b) k).ord iD 0)),(2,.mrow 5 1 (.map (l.foldl (Skt.v b) k).out u8D 0))] ?_;refine ⟨⟨yG,⟨⟨rfl,Sub.refl _,rfl,Sub.refl _,rfl,Sub.mo (by rw [htk]),rfl,Sub.mo (by rw [htk]),rfl,trivial⟩,SubO.mp (by rw [htk]),SubO.mp (by rw [htk]),yD⟩,rfl,rfl⟩,?_⟩;refine zE zJ [1017] 600 rfl ?_;refine zF ?_;refine yK _ _ (jU h b (l.foldl (Skt.v b) k) (sB 124) (by have h1 := (kG0 hb hN0 hk hv).len;show _ + 1 ≤ _;omega)) rfl ?_;refine zF ?_;refine zC ?_;exact FinH.normal 3 rfl rfl (Sub.refl _) ⟨⟨rfl,Sub.refl _,rfl,Sub.refl _,rfl,Sub.refl _,rfl,Sub.refl _,rfl,trivial⟩,SubO.mp rfl,SubO.mp rfl,trivial⟩
end Go.Proofs.YtifgelimmddkpaaGreatDoor
