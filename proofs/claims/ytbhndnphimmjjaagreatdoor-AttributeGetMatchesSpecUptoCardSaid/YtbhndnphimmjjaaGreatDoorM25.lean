/- Part 25 of the proof. -/
import Derived.Test.YtbhndnphimmjjaaGreatDoorM24
namespace Go.Proofs.YtbhndnphimmjjaaGreatDoor
open Go.RowKit
variable {md me : Bool}
theorem qI (v : Vl) : Fn Tryz.prog 33 [.agg (vlD v)] (.agg (stD (vlS v))) := by
 refine yL zM Tryz.func33 rfl rfl rfl rfl rfl rfl ?_;intro w0 s0 mx;refine zL 100 ?_;refine zL 200 ?_;refine zJ ?_;exact FinV.ret rfl (SubP.agg (by repeat (first | exact trivial | exact SubP.refl _ | exact SubP.nilSl rfl | refine ⟨?_,?_⟩)))
theorem atRaise_ok (c : Int) (s : ByteArray) : Fn Tryz.prog 44 [.v (.int .i64 c),.v (.string s)] (.agg (stD (raS c s))) := by
 refine yL zM Tryz.func44 rfl rfl rfl rfl rfl rfl ?_;intro w0 s0 mx;refine zL 100 ?_;refine zL 200 ?_;refine zJ ?_;exact FinV.ret rfl (SubP.agg (by repeat (first | exact trivial | exact SubP.refl _ | exact SubP.nilSl rfl | refine ⟨?_,?_⟩)))
theorem uE (s : ByteArray) : Fn Tryz.prog 34 [.v (.string s)] (.agg (stD (raS 36 s))) := by
 refine yL zM Tryz.func34 rfl rfl rfl rfl rfl rfl ?_;intro w0 s0 mx;refine zL 100 ?_;refine zB (zE zM [] 200 rfl ?_);refine zF ?_;refine zT _ (atRaise_ok _ _) rfl ?_;refine zF ?_;refine zC (zA (zJ ?_));exact FinV.ret rfl (SubP.refl _)
theorem uL0 (f : Vl) (l : List Vl) : Fn Tryz.prog 40 [.agg (vlD f),vsD l] (.agg (stD (caS f l))) := by
 refine yL zM Tryz.func40 rfl rfl rfl rfl rfl rfl ?_;intro w0 s0 mx;refine zL 100 ?_;refine zL 200 ?_;refine zJ ?_;exact FinV.ret rfl (SubP.agg (by repeat (first | exact trivial | exact SubP.refl _ | exact SubP.nilSl rfl | refine ⟨?_,?_⟩)))
theorem gA (h : List Ob) (v : Vl) (s : ByteArray) (l : List Vl) (hh : HpIn h) (g : Uh h) (hv : v.k = 6 → yW h v.r = true) (hl : l.length ≤ 1000000) : Fn Tryz.prog 41 [hpD md h,.agg (vlD v),.v (.string s),vsD l] (.tup [.agg (stD (caS (spS h v s).1 ((spS h v s).2.1 ++ l))),.v (.bool (spS h v s).2.2)]) := by
 refine yL zM Tryz.func41 rfl rfl rfl rfl rfl rfl ?_;intro w0 s0 mx;refine zL 100 ?_;refine zB (zE zM [] 200 rfl ?_);refine zF ?_;refine zT _ (zD0 _ _ _ (by first | assumption | omega | (simp_all;done)) (by first | assumption | omega | (simp_all;done)) (by first | assumption | omega | (simp_all;done))) rfl ?_;refine zF ?_;refine zC (zA ?_);refine zB (zV zM [25] mK13 300 yR (by kernel_rfl) rfl ?_);refine zF ?_;refine qZ _ _ _ ((zG0 [(spS h v s).2.1,l] (by have := zV1 h v s;rw [cE0,List.length_append];omega) (by show 2 ≤ 1000;omega)).args ⟨SubP.slrSl rfl,trivial⟩) ?_;refine zF ?_;refine zT _ ((uL0 _ ((spS h v s).2.1 ++ l)).args ⟨SubP.refl _,SubP.ownSl (by simp [ctL]),trivial⟩) rfl ?_;refine zF ?_;refine zC (zA (zJ ?_));exact FinV.ret rfl (SubP.refl _)
def vqD (k : Vl) : D := .pt true (vlD k)
def fxI (p : ByteArray → Bool) : List ByteArray → Int
 | [] => -1
 | x :: l => if p x = true then 0 else if fxI p l < 0 then -1 else fxI p l + 1
theorem pX0 {p : ByteArray → Bool} : ∀ {l : List ByteArray},(∀ x ∈ l,p x = false) → fxI p l = -1
 | [],_ => rfl
 | x :: l,h => by
  rw [fxI,if_neg (by rw [h x List.mem_cons_self];decide),pX0 fun y hy => h y (List.mem_cons_of_mem _ hy),if_pos (by decide)]
theorem yU1 {p : ByteArray → Bool} : ∀ {l : List ByteArray} {k : Nat},(∀ j x,j < k → l[j]? = some x → (!p x) = true) → ∀ {y : ByteArray},l[k]? = some y → p y = true → fxI p l = k
 | [],_,_,_,h,_ => by simp at h
 | x :: l,0,_,y,h,hp => by
  simp at h;subst h;rw [fxI,if_pos hp];rfl
 | x :: l,k + 1,hn,y,h,hp => by
  have h0 := hn 0 x (by omega) rfl;have := yU1 (l := l) (k := k) (fun j z hj hz => hn (j + 1) z (by omega) (by simpa using hz)) (by simpa using h) hp;rw [fxI,if_neg (by intro e;rw [e] at h0;cases h0),this,if_neg (by omega)]
  push_cast;rfl
theorem tW0 (p : ByteArray → Bool) : ∀ l : List ByteArray,decide (0 ≤ fxI p l) = l.any p
 | [] => rfl
 | x :: l => by
  have ih := tW0 p l;rw [fxI,List.any_cons,← ih]
  cases hp : p x with
  | true => rw [if_pos rfl];rfl
  | false =>
   rw [if_neg (by decide),Bool.false_or];split
   ·rename_i h;rw [decide_eq_false (by omega),decide_eq_false (by omega)]
   ·rename_i h;rw [decide_eq_true (by omega),decide_eq_true (by omega)]
theorem any_all {α : Type} (p : α → Bool) (l : List α) : (!(l.any fun x => !p x)) = l.all p := by
 induction l with
 | nil => rfl
 | cons x l ih => rw [List.any_cons,List.all_cons,← ih];cases p x <;> simp
theorem IndexFuncS_ok (h : List Ob) (v : Vl) (l : List ByteArray) (p : ByteArray → Bool) (f : FuncId) (H : ∀ x ∈ l,Fn Tryz.prog f [.v (.string x),cpD md h,vqD v] (.v (.bool (p x)))) : Fn Tryz.prog 171 [.sl me 1 l sD ByteArray.empty,.clo f [cpD md h,vqD v]] (.v (.int .i64 (fxI p l))) := by
 refine yL zM Tryz.func171 rfl rfl rfl rfl rfl rfl ?_;intro w0 s0 mx;refine wK 0 rfl fun hl0 => ?_;refine zL 100 ?_;refine zB (zL 200 ?_);refine zQ ?_;refine yC (ι := Al l (fun x => !p x)) [0,1,7] [] 250 (fun x => [(8,.v (.int .i64 x.k))]) (fun _ => []) (fun x => l.length - x.k) ⟨0,Nat.zero_le _,fun j x hj => by omega⟩ ?_;refine ⟨⟨yH,yG,rfl,rfl⟩,fun x => ?_⟩;have hk := x.le;refine zL 300 ?_;refine zB (zS rfl (fun c2 => ?_) (fun c2 => ?_))
 ·have c2 : x.k < l.length := by simpa using c2
  refine zO (zA (zB (zQ (zL 400 ?_))));refine zB (zE zM [] 500 rfl ?_);refine zF ?_;refine zT _ (H _ (by rw [gY c2];exact List.getElem_mem _)) rfl ?_;refine zF ?_;refine zC (zA (zS rfl (fun c4 => ?_) (fun c4 => ?_)))
  ·
   refine zL 600 ?_;refine zJ (zN (zK (yP (zN (zK ?_)))));exact FinV.ret rfl (SubP.int (yU1 x.all (jQ0 c2 ByteArray.empty) c4).symm)
  ·
   refine zO (zP (zA (yT zM [] 700 ?_)));exact zW (x.next (e := ByteArray.empty) c2 (by rw [c4];rfl)) ⟨yH,yG,rfl,rfl⟩ (by show l.length - (x.k + 1) < l.length - x.k;omega)
 ·have c2 : ¬ x.k < l.length := by simpa using c2
  refine yF (zZ (yB (zX (zA (zL 800 ?_)))));refine zJ ?_;exact FinV.ret rfl (SubP.int (pX0 (fun y hy => by
    have := List.all_eq_true.1 (x.yes c2) y hy;simpa using this)).symm)
theorem ContainsFuncS_ok (h : List Ob) (v : Vl) (l : List ByteArray) (p : ByteArray → Bool) (f : FuncId) (H : ∀ x ∈ l,Fn Tryz.prog f [.v (.string x),cpD md h,vqD v] (.v (.bool (p x)))) : Fn Tryz.prog 151 [.sl me 1 l sD ByteArray.empty,.clo f [cpD md h,vqD v]] (.v (.bool (l.any p))) := by
 refine yL zM Tryz.func151 rfl rfl rfl rfl rfl rfl ?_;intro w0 s0 mx;refine zL 100 ?_;refine zB (zE zM [] 200 rfl ?_);refine zF ?_;refine zT _ (IndexFuncS_ok h v l p f H) rfl ?_;refine zF ?_;refine zC (zA (zJ ?_));exact FinV.ret rfl (SubP.bool (tW0 p l))
theorem hasC_ok (h : List Ob) (v : Vl) (s : ByteArray) (hh : HpIn h) (g : Uh h) (hv : v.k = 6 → yW h v.r = true) : Fn Tryz.prog 152 [.v (.string s),cpD md h,vqD v] (.v (.bool (!(spS h v s).2.2))) := by
 refine yL zM Tryz.func152 rfl rfl rfl rfl rfl rfl ?_;intro w0 s0 mx;refine zL 100 ?_;refine zB (zE zM [] 200 rfl ?_);refine zF ?_;refine zT _ (zD0 h v s hh g hv) rfl ?_;refine zF ?_;refine zC (zA (zL 300 ?_));refine zJ ?_;exact FinV.ret rfl (SubP.refl _)
theorem pU0 (h : List Ob) (v : Vl) (l : List ByteArray) (hh : HpIn h) (g : Uh h) (hv : v.k = 6 → yW h v.r = true) : Fn Tryz.prog 124 [hpD md h,.agg (vlD v),.sl me 1 l sD ByteArray.empty] (.v (.bool (l.all fun s => (spS h v s).2.2))) := by
 refine yL zM Tryz.func124 rfl rfl rfl rfl rfl rfl ?_;intro w0 s0 mx;refine zL 100 ?_;refine zB (zE zM [] 200 rfl ?_);refine zF ?_;refine yO _ (ContainsFuncS_ok h v l (fun s => !(spS h v s).2.2) 152 fun x _ => hasC_ok h v x hh g hv) rfl rfl ?_;refine zF ?_;refine zC (zA (zJ ?_));exact FinV.ret rfl (SubP.bool (any_all _ _))
def cnQ (q : ByteArray → Bool) (l : List ByteArray) (k : Nat) : Nat := ((l.take k).filter q).length
theorem cn_yes {q : ByteArray → Bool} {l : List ByteArray} {k : Nat} (hk : k < l.length) (h : q (l.getD ((k : Nat) : Int).toNat ByteArray.empty) = true) : cnQ q l (k + 1) = cnQ q l k + 1 := by
 unfold cnQ;rw [qJ hk ByteArray.empty,List.filter_append,List.length_append,List.filter_cons,if_pos h];rfl
theorem cn_no {q : ByteArray → Bool} {l : List ByteArray} {k : Nat} (hk : k < l.length) (h : q (l.getD ((k : Nat) : Int).toNat ByteArray.empty) = false) : cnQ q l (k + 1) = cnQ q l k := by
 unfold cnQ;rw [qJ hk ByteArray.empty,List.filter_append,List.length_append,List.filter_cons,if_neg (by rw [h];decide)];rfl
theorem cn_le (q : ByteArray → Bool) (l : List ByteArray) (k : Nat) : cnQ q l k ≤ k := by
 unfold cnQ;exact Nat.le_trans (List.length_filter_le _ _) (by rw [List.length_take];omega)
theorem cn_all (q : ByteArray → Bool) (l : List ByteArray) : decide (((cnQ q l l.length : Nat) : Int) = (l.length : Nat)) = l.all q := by
 unfold cnQ;rw [List.take_length];by_cases h : ∀ x ∈ l,q x = true
 ·rw [List.filter_eq_self.2 h,decide_eq_true rfl,List.all_eq_true.2 h]
 ·have h1 : ¬ (l.filter q).length = l.length := fun e => h (List.filter_eq_self.1 (List.Sublist.eq_of_length List.filter_sublist e));rw [decide_eq_false (by omega),Bool.eq_false_iff.2 (fun e => h (List.all_eq_true.1 e))]
theorem mt_in {f w : Vl} (hf : VlIn f) (hw : VlIn w) : ObIn (mtO f w) :=
 ⟨(by decide : (-9223372036854775808 : Int) ≤ 8 ∧ (8 : Int) ≤ 9223372036854775807),(by decide : (-9223372036854775808 : Int) ≤ 0 ∧ (0 : Int) ≤ 9223372036854775807),(by decide : (-9223372036854775808 : Int) ≤ 0 ∧ (0 : Int) ≤ 9223372036854775807),(by decide : (-9223372036854775808 : Int) ≤ 0 ∧ (0 : Int) ≤ 9223372036854775807),(by decide : ByteArray.empty.size ≤ 2000000),(by decide : 0 ≤ 2000000),(by decide : 0 ≤ 2000000),(by decide : 0 ≤ 2000000),(by show 2 ≤ 2000000;decide),(by decide : 0 ≤ 2000000),(fun _ h => by cases h),(fun v hv => by
  have hv : v ∈ [f,w] := hv;simp only [List.mem_cons,List.not_mem_nil,or_false] at hv;rcases hv with rfl | rfl
  ·exact hf
  ·exact hw),(fun _ h => by cases h)⟩
theorem gZ : qB.size = 1 ∧ nhB.size = 20 ∧ cqB.size = 7 ∧ mqB.size = 8 ∧ atB.size = 11 ∧ cnrB.size = 16 ∧ suB.size = 24 ∧ dotB.size = 1 := by decide
theorem hasAll_ok (h : List Ob) (v : Vl) (l : List ByteArray) (hh : HpIn h) (g : Uh h) (hv : v.k = 6 → yW h v.r = true) (hl : l.length ≤ 1000) : Fn Tryz.prog 101 [hpD md h,.agg (vlD v),.sl me 1 l sD ByteArray.empty] (.v (.bool (l.all fun s => (spS h v s).2.2))) := by
 refine yL zM Tryz.func101 rfl rfl rfl rfl rfl rfl ?_;intro w0 s0 mx;refine zL 100 ?_;refine zL 200 ?_;refine yK [2,3,4] [0,1] 210 [(7,.v (.int .i64 (cnQ (fun s => (spS h v s).2.2) l 0 : Nat)))] [] ?_;refine ⟨⟨⟨Sub.int rfl,yH⟩,yG,rfl,rfl⟩,?_⟩;refine zB (zL 300 ?_);refine zQ ?_;refine yC (ι := {k : Nat // k ≤ l.length}) [2,3,4,13,14] [0,1] 350 (fun x => [(15,.v (.int .i64 x.1)),(7,.v (.int .i64 (cnQ (fun s => (spS h v s).2.2) l x.1 : Nat)))]) (fun _ => []) (fun x => l.length - x.1) ⟨0,Nat.zero_le _⟩ ?_;refine ⟨⟨⟨Sub.int rfl,Sub.int rfl,yH⟩,yG,rfl,rfl⟩,fun x => ?_⟩;have hk : x.1 ≤ l.length := x.2;have hc := cn_le (fun s => (spS h v s).2.2) l x.1;refine zL 400 ?_;refine zB (zS rfl (fun c3 => ?_) (fun c3 => ?_))
 ·have hlt : x.1 < l.length := by simpa using c3
  refine zO (zA (zB (zQ (zL 500 ?_))));refine zB (zE zM [] 600 rfl ?_);refine zF ?_;refine zT _ (uQ0 h v _ hh g hv) rfl ?_;refine zF ?_;refine zC (zA (zL 700 ?_));refine zY (fun c6 => ?_) (fun c6 => ?_)
  ·
   refine yT zM [] 800 ?_;refine zP (zA (yT zM [] 900 ?_));have hN := cn_yes hlt (q := (fun s => (spS h v s).2.2)) (by simpa using c6);exact zW ⟨x.1 + 1,by omega⟩ ⟨⟨Sub.int (by push_cast;rfl),Sub.int (by rw [hN];push_cast;rfl),yH⟩,yG,rfl,rfl⟩ (by show l.length - (x.1 + 1) < l.length - x.1;omega)
  ·
   refine zO (zP (zA (yT zM [] 900 ?_)));have hN := cn_no hlt (q := (fun s => (spS h v s).2.2)) (by simpa using c6);exact zW ⟨x.1 + 1,by omega⟩ ⟨⟨Sub.int (by push_cast;rfl),Sub.int (by rw [hN]),yH⟩,yG,rfl,rfl⟩ (by show l.length - (x.1 + 1) < l.length - x.1;omega)
 ·have hke : x.1 = l.length := by
   have h9 : ¬ x.1 < l.length := by simpa using c3
   omega
  refine yF (zZ (yB (zX (zA (zL 1000 ?_)))));refine zJ ?_;exact FinV.ret rfl (SubP.bool (by rw [hke];exact cn_all _ _))
theorem kG0 {P : Program} {K : DS → Prop} {p : Prop} {r : Out} (hr : r.sat P K) (hp : p := by first | exact ⟨by decide,hp⟩ | exact ⟨rfl,hp⟩ | (simp only [ByteArray.size_append,kbs,List.size_toArray,List.length_cons,List.length_nil];omega) | (show _ ≤ 9223372036854775807;simp only [ByteArray.size_append,atB,cnrB] at *;omega) | first | exact trivial | omega | exact ini (by omega) (by omega) | (intro hh;simp at hh;exact ini (by omega) (by omega)) | (intro hh;simp at hh ⊢;omega) | (simp at *;omega) | (simp_all;done)) : (Out.need p r).sat P K := ⟨hp,hr⟩
theorem jP0 (p : Ob) (v : Vl) (s : ByteArray) (hp : 0 < p.items.length) (hs : s.size ≤ 2000000) : Fn Tryz.prog 89 [.agg (obD p),.agg (vlD v),.v (.string s)] (.agg (stD (gtS p v s))) := by
 have hz := gZ;refine yL zM Tryz.func89 rfl rfl rfl rfl rfl rfl ?_;intro w0 s0 mx;refine zB (zE zM [] 100 rfl ?_);repeat (first | refine zG ?_ | refine zH ?_ | refine kG0 ?_)
 refine zC (zA (zB ?_));refine zB (zE zM [] 200 rfl ?_);repeat (first | refine zG ?_ | refine zH ?_ | refine kG0 ?_)
 refine zC (zA (zS rfl (fun c1 => ?_) (fun c1 => ?_)))
 ·have c1w : (p.items.getD 0 vl0).k = 0 := by simpa using c1
  refine zB (zE zM [] 300 rfl ?_);repeat (first | refine zG ?_ | refine zH ?_ | refine kG0 ?_)
  refine zT _ (uE _) rfl ?_;repeat (first | refine zG ?_ | refine zH ?_ | refine kG0 ?_)
  refine zC (zA (zJ (zK ?_)));rw [show gtS p v s = _ from if_pos c1w];exact FinV.ret rfl (SubP.refl _)
 ·have c1w : ¬ (p.items.getD 0 vl0).k = 0 := by simpa using c1
  refine zO (zA ?_);refine zB (zV zM [] mK8 400 yR (by kernel_rfl) rfl ?_);repeat (first | refine zG ?_ | refine zH ?_ | refine kG0 ?_)
  refine zT _ ((uL0 _ [v]).args ⟨SubP.refl _,SubP.slrSl rfl,trivial⟩) rfl ?_;repeat (first | refine zG ?_ | refine zH ?_ | refine kG0 ?_)
  refine zC (zA (zJ ?_));rw [show gtS p v s = _ from if_neg c1w];exact FinV.ret rfl (SubP.refl _)
theorem vK {P : Program} {K : DS → Prop} {p : Prop} {r : Out} (hr : r.sat P K) (hp : p := by first | (simp only [ByteArray.size_append,kbs,List.size_toArray,List.length_cons,List.length_nil];omega) | first | exact trivial | omega | exact ini (by omega) (by omega) | (intro hh;simp at hh;exact ini (by omega) (by omega)) | (intro hh;simp at hh ⊢;omega) | (simp at *;omega) | (simp_all;done)) : (Out.need p r).sat P K := ⟨hp,hr⟩
theorem pY (h : List Ob) (v : Vl) (s : ByteArray) (g : Uh h) (c : Cf h v) (hs : s.size ≤ 2000000) (h9 : ¬ (zR h v).kind = 9) (h11 : ¬ (zR h v).kind = 11) : Fn Tryz.prog 48 [hpD md h,.agg (vlD v),.v (.string s)] (.agg (stD (lkS h v s))) := by
 have hz := gZ;have hnz := jA0 g (xW g c);refine yL zM Tryz.func48 rfl rfl rfl rfl rfl rfl ?_;intro w0 s0 mx;refine zB (zE zM [] 100 rfl ?_);repeat (first | refine zG ?_ | refine zH ?_ | refine vK ?_)
 refine zC (zA ?_);refine zB (zE zM [] 200 rfl ?_);repeat (first | refine zG ?_ | refine zH ?_ | refine vK ?_)
 refine zT _ (heapName_ok h v g c) rfl ?_;repeat (first | refine zG ?_ | refine zH ?_ | refine vK ?_)
 refine zT _ (uE _) rfl ?_;repeat (first | refine zG ?_ | refine zH ?_ | refine vK ?_)
 refine zC (zA (zJ ?_));rw [show lkS h v s = raS 36 (qB ++ (yA h (clA h v)).name ++ nhB ++ s ++ qB) by unfold lkS whoS;rw [if_neg h9,if_neg h11]];exact FinV.ret rfl (SubP.refl _)
theorem wN (h : List Ob) (f w : Vl) (hh : h.length ≤ 3000000) (hf : VlIn f) (hw : VlIn w) : FnG Tryz.prog 93 [.bp 0 0,.agg (vlD f),.agg (vlD w)] (hpO h) (.agg (stD (newS h (mtO f w)).1)) (hpO (newS h (mtO f w)).2) := by
 refine jE zM Tryz.func93 rfl rfl rfl rfl rfl rfl rfl ?_;intro w0 s0 mx;refine zL 100 ?_;refine zB (zE zM [1012] 200 rfl ?_);refine zF ?_;refine yJ _ _ ((jO0 h (mtO f w) (by omega) (mt_in hf hw)).args ⟨Sub.refl _,Sub.ofP (SubP.agg ⟨SubP.refl _,SubP.refl _,SubP.refl _,SubP.nilSl rfl,SubP.nilSl rfl,SubP.nilSl rfl,SubP.slrSl rfl,SubP.nilSl rfl,SubP.refl _,SubP.refl _,trivial⟩) rfl rfl,trivial⟩) rfl ?_;refine zF ?_;refine zT _ (uC _) rfl ?_;refine zF ?_;refine zT _ (qI _) rfl ?_;refine zF ?_;refine zC (zA (zJ ?_));exact FinH.ret 2 rfl rfl (Sub.ofP (SubP.agg (SubPs.refl _)) rfl rfl) ⟨⟨rfl,Sub.mo rfl,rfl,trivial⟩,SubO.mp rfl,trivial⟩
theorem uK0 (s t : ByteArray) (hs : s.size ≤ 2000000) (ht : t.size ≤ 2000000) : Fn Tryz.prog 53 [.v (.string s),.v (.string t)] (.agg (stD (raS 36 (atB ++ s ++ ⟨#[39,32,99,97,110,110,111,116,32,98,101,32]⟩ ++ t)))) := by
 have hz := gZ;have hz2 : (⟨#[39,32,99,97,110,110,111,116,32,98,101,32]⟩ : ByteArray).size = 12 := by decide
 refine yL zM Tryz.func53 rfl rfl rfl rfl rfl rfl ?_;intro w0 s0 mx;refine zB (zE zM [] 100 rfl ?_);repeat (first | refine zG ?_ | refine zH ?_ | refine vK ?_)
 refine zC (zA ?_);refine zB (zE zM [] 200 rfl ?_);repeat (first | refine zG ?_ | refine zH ?_ | refine vK ?_)
 refine zT _ (gR _ _) rfl ?_;repeat (first | refine zG ?_ | refine zH ?_ | refine vK ?_)
 refine zC (zA (zJ ?_));exact FinV.ret rfl (SubP.refl _)
theorem dX (h : List Ob) (v : Vl) (s : ByteArray) (g : Uh h) (c : Cf h v) (hs : s.size ≤ 2000000) : Fn Tryz.prog 58 [hpD md h,.agg (vlD v),.v (.string s)] (.agg (stD (lkS h v s))) := by
 have hz := gZ;have hnz := jA0 g (xW g c);have hoz := dC g v;have hz2 : (⟨#[32,104,97,115,32,110,111,32,97,116,116,114,105,98,117,116,101,32,39]⟩ : ByteArray).size = 19 := by decide
 refine yL zM Tryz.func58 rfl rfl rfl rfl rfl rfl ?_;intro w0 s0 mx;refine zB (zE zM [] 100 rfl ?_);repeat (first | refine zG ?_ | refine zH ?_ | refine vK ?_)
 refine zC (zA ?_);refine zB (zE zM [] 200 rfl ?_);repeat (first | refine zG ?_ | refine zH ?_ | refine vK ?_)
 refine zT _ (ClassName_ok h v g c) rfl ?_;repeat (first | refine zG ?_ | refine zH ?_ | refine vK ?_)
 refine zC (zA (zB ?_));refine zB (zE zM [] 300 rfl ?_);repeat (first | refine zG ?_ | refine zH ?_ | refine vK ?_)
 refine zT _ (qM _ _) rfl ?_;repeat (first | refine zG ?_ | refine zH ?_ | refine vK ?_)
 refine zC (zA ?_);refine zB (zE zM [] 400 rfl ?_);repeat (first | refine zG ?_ | refine zH ?_ | refine vK ?_)
 refine zC (zA (zQ ?_));refine zB (zE zM [] 500 rfl ?_);repeat (first | refine zG ?_ | refine zH ?_ | refine vK ?_)
 refine zC (zA (zY (fun c4 => ?_) (fun c4 => ?_)))
 ·
  refine zE zM [] 600 rfl ?_;repeat (first | refine zG ?_ | refine zH ?_ | refine vK ?_)
  refine zC (zP (zA ?_));refine zB (zE zM [] 900 rfl ?_);repeat (first | refine zG ?_ | refine zH ?_ | refine vK ?_)
  refine zT _ (gR _ _) rfl ?_;repeat (first | refine zG ?_ | refine zH ?_ | refine vK ?_)
  refine zC (zA (zJ ?_));have key : ∀ w : ByteArray,w ++ qB ++ ⟨#[32,104,97,115,32,110,111,32,97,116,116,114,105,98,117,116,101,32,39]⟩ ++ s ++ qB = w ++ nhB ++ s ++ qB := fun w => by
   rw [ByteArray.append_assoc (a := w)];rfl
  rw [show lkS h v s = raS 36 ((cqB ++ (zR h v).name) ++ nhB ++ s ++ qB) by unfold lkS whoS;rw [if_pos c4]];rw [← key];exact FinV.ret rfl (SubP.refl _)
 ·
  refine zB (zE zM [] 700 rfl ?_);repeat (first | refine zG ?_ | refine zH ?_ | refine vK ?_)
  refine zC (zA (zY (fun c6 => ?_) (fun c6 => ?_)))
  ·
   refine zE zM [] 800 rfl ?_;repeat (first | refine zG ?_ | refine zH ?_ | refine vK ?_)
   refine zC (zP (zA ?_));refine zB (zE zM [] 900 rfl ?_);repeat (first | refine zG ?_ | refine zH ?_ | refine vK ?_)
   refine zT _ (gR _ _) rfl ?_;repeat (first | refine zG ?_ | refine zH ?_ | refine vK ?_)
   refine zC (zA (zJ ?_));have key : ∀ w : ByteArray,w ++ qB ++ ⟨#[32,104,97,115,32,110,111,32,97,116,116,114,105,98,117,116,101,32,39]⟩ ++ s ++ qB = w ++ nhB ++ s ++ qB := fun w => by
    rw [ByteArray.append_assoc (a := w)];rfl
   rw [show lkS h v s = raS 36 ((mqB ++ (zR h v).name) ++ nhB ++ s ++ qB) by unfold lkS whoS;rw [if_neg c4,if_pos c6]];rw [← key];exact FinV.ret rfl (SubP.refl _)
  ·
   refine zO (zP (zA ?_));refine zB (zE zM [] 900 rfl ?_);repeat (first | refine zG ?_ | refine zH ?_ | refine vK ?_)
   refine zT _ (gR _ _) rfl ?_;repeat (first | refine zG ?_ | refine zH ?_ | refine vK ?_)
   refine zC (zA (zJ ?_));have key : ∀ w : ByteArray,w ++ qB ++ ⟨#[32,104,97,115,32,110,111,32,97,116,116,114,105,98,117,116,101,32,39]⟩ ++ s ++ qB = w ++ nhB ++ s ++ qB := fun w => by
    rw [ByteArray.append_assoc (a := w)];rfl
   rw [show lkS h v s = raS 36 ((qB ++ (yA h (clA h v)).name) ++ nhB ++ s ++ qB) by unfold lkS whoS;rw [if_neg c4,if_neg c6]];rw [← key];exact FinV.ret rfl (SubP.refl _)
end Go.Proofs.YtbhndnphimmjjaaGreatDoor
