/- Part 25 of the proof. -/
import Derived.Test.YtifgelimmddkpaaGreatDoorM22
namespace Go.Proofs.YtifgelimmddkpaaGreatDoor
namespace Gq
open Go.RowKit
variable {md me : Bool}
theorem dD (h : List Ob) (v : Vl) (g : Uh h) (c : Cf h v) : Fn Tryz.prog 74 [hpD md h,.agg (vlD v)] (.v (.string (zX h (clA h v)).name)) := by
 refine yL zJ Tryz.func74 rfl rfl rfl rfl rfl rfl ?_;intro w0 s0 mx;refine zL 100 ?_;refine zB (zU zJ [] mK17 200 yP (by kernel_rfl) rfl ?_);repeat (first | refine zG ?_ | refine zH ?_ | refine zW (by exact clA_in g c) ?_)
 refine zT _ (zC0 h v c) rfl ?_;repeat (first | refine zG ?_ | refine zH ?_ | refine zW (by exact clA_in g c) ?_)
 refine zC (zA (zK ?_));exact FinV.ret rfl (SubP.refl _)
set_option maxHeartbeats 1000000 in
theorem uA0 (h : List Ob) (v : Vl) (s : ByteArray) (hh : HpIn h) (g : Uh h) (hv : v.k = 6 → yO h v.r = true) : Fn Tryz.prog 112 [hpD md h,.agg (vlD v),.v (.string s)] (.tup [.agg (vlD (spS h v s).1),vsD (spS h v s).2.1,.v (.bool (spS h v s).2.2)]) := by
 refine yL zJ Tryz.func112 rfl rfl rfl rfl rfl rfl ?_;intro w0 s0 mx;refine zL 100 ?_;refine zB (zE zJ [] 200 rfl ?_);refine zF ?_;refine zT _ (qJ _ _) rfl ?_;refine zF ?_;refine zC (zA (zB (zL 300 ?_)));refine zS rfl (fun c2 => ?_) (fun c2 => ?_)
 ·replace c2 : ¬ (zO h v).kind = 10 := by simpa using c2
  refine zL 400 ?_;refine zK (zM ?_);exact FinV.ret rfl (SubP.tup ⟨by rw [spS,Ab c2];exact (by repeat (first | exact trivial | exact SubP.refl _ | exact SubP.nilSl rfl | refine SubP.agg ?_ | refine ⟨?_,?_⟩)),by rw [spS,Ab c2];exact SubP.nilSl rfl,by rw [spS,Ab c2];exact SubP.refl _,trivial⟩)
 ·replace c2 : (zO h v).kind = 10 := by simpa using c2
  have hin := inst_cls g c2;have hrv := fun hk => jL0 hh g hin s hk;refine zN (zA ?_);refine zB (zE zJ [] 500 rfl ?_);refine zF ?_;refine zT _ (vI h (zO h v).cls s hh hin (cok_of hh g hin)) rfl ?_;refine zF ?_;refine zC (zA (zB (zL 600 ?_)));refine zS rfl (fun c5 => ?_) (fun c5 => ?_)
  ·replace c5 : (fdO h (zX h (zO h v).cls).order s).isSome = false := by simpa using c5
   refine zL 700 ?_;refine zK (zM ?_);exact FinV.ret rfl (SubP.tup ⟨by rw [spS,Aa (not_not_intro c2),Ab c5];exact (by repeat (first | exact trivial | exact SubP.refl _ | exact SubP.nilSl rfl | refine SubP.agg ?_ | refine ⟨?_,?_⟩)),by rw [spS,Aa (not_not_intro c2),Ab c5];exact SubP.nilSl rfl,by rw [spS,Aa (not_not_intro c2),Ab c5];exact SubP.refl _,trivial⟩)
  ·replace c5 : (fdO h (zX h (zO h v).cls).order s).isSome = true := by simpa using c5
   refine zN (zA (zB ?_));refine zB (zE zJ [] 800 rfl ?_);refine zF ?_;refine zT _ (xI h (fdV h s (fdO h (zX h (zO h v).cls).order s))) rfl ?_;refine zF ?_;refine zC (zA (zS rfl (fun c7 => ?_) (fun c7 => ?_)))
   ·
    refine zB (zU zJ [] [[],[],[1],[0],[0,1,2,3],(rgN 5)] 900 yP (by kernel_rfl) rfl ?_);refine zF ?_;refine zC (zA (zK (zM ?_)));exact FinV.ret rfl (SubP.tup ⟨by rw [spS,Aa (not_not_intro c2),Aa (by rw [c5];decide),Ab c7];exact SubP.refl _,by rw [spS,Aa (not_not_intro c2),Aa (by rw [c5];decide),Ab c7];exact SubP.slrSl rfl,by rw [spS,Aa (not_not_intro c2),Aa (by rw [c5];decide),Ab c7];exact SubP.refl _,trivial⟩)
   ·
    refine zN (zA (zB ?_));refine zB (zE zJ [] 1000 rfl ?_);refine zF ?_;refine zT _ (qJ _ _) rfl ?_;refine zF ?_;refine zC (zA (zL 1100 ?_));refine zR (zL 1200 ?_);refine zZ (fun c11 => ?_) (fun c11 => ?_)
    ·
     refine zB (zU zJ [] [[],[0],[0,1],[0,1,2],[],[4],[4,5],[4,5,6],(rgN 7),(rgN 9),(rgN 10)] 1300 yP (by kernel_rfl) rfl ?_);repeat (first | refine zG ?_ | refine zH ?_ | refine zW (by exact ⟨by omega,qW g (Or.inr c11)⟩) ?_)
     refine zT _ (O_ok _) rfl ?_;repeat (first | refine zG ?_ | refine zH ?_ | refine zW (by exact ⟨by omega,qW g (Or.inr c11)⟩) ?_)
     refine zC (zA (zK (zQ (zM ?_))));exact FinV.ret rfl (SubP.tup ⟨by rw [spS,Aa (not_not_intro c2),Aa (by rw [c5];decide),Aa (by rw [c7];decide),Aa (by omega),Ab c11];exact SubP.refl _,by rw [spS,Aa (not_not_intro c2),Aa (by rw [c5];decide),Aa (by rw [c7];decide),Aa (by omega),Ab c11];exact SubP.slrSl rfl,by rw [spS,Aa (not_not_intro c2),Aa (by rw [c5];decide),Aa (by rw [c7];decide),Aa (by omega),Ab c11];exact SubP.refl _,trivial⟩)
    ·
     refine zL 1400 ?_;refine zZ (fun c13 => ?_) (fun c13 => ?_)
     ·
      refine zB (zE zJ [] 1500 rfl ?_);repeat (first | refine zG ?_ | refine zH ?_ | refine zW (by exact ⟨by omega,qW g (Or.inl c13)⟩) ?_)
      refine zC (zA (zK (zQ (zM ?_))));exact FinV.ret rfl (SubP.tup ⟨by rw [spS,Aa (not_not_intro c2),Aa (by rw [c5];decide),Aa (by rw [c7];decide),Ab c13];exact SubP.refl _,by rw [spS,Aa (not_not_intro c2),Aa (by rw [c5];decide),Aa (by rw [c7];decide),Ab c13];exact SubP.nilSl rfl,by rw [spS,Aa (not_not_intro c2),Aa (by rw [c5];decide),Aa (by rw [c7];decide),Ab c13];exact SubP.refl _,trivial⟩)
     ·
      refine zN (zP (zA (zL 1600 ?_)));refine zK ?_;exact FinV.ret rfl (SubP.tup ⟨by rw [spS,Aa (not_not_intro c2),Aa (by rw [c5];decide),Aa (by rw [c7];decide),Aa (by omega),Aa (by omega)];exact SubP.refl _,by rw [spS,Aa (not_not_intro c2),Aa (by rw [c5];decide),Aa (by rw [c7];decide),Aa (by omega),Aa (by omega)];exact SubP.nilSl rfl,by rw [spS,Aa (not_not_intro c2),Aa (by rw [c5];decide),Aa (by rw [c7];decide),Aa (by omega),Aa (by omega)];exact SubP.refl _,trivial⟩)
theorem named_ok (h : List Ob) (v : Vl) (g : Uh h) : Fn Tryz.prog 68 [hpD md h,.agg (vlD v)] (.tup [.v (.string (jR h v).1),.v (.bool (jR h v).2)]) :=
 cE h v _ (fun hk => (meth_item g hk).1) fun hk => cE h _ _ (fun h8 => absurd h8 (cF (meth_item g hk).2)) fun h8 => absurd h8 (cF (meth_item g hk).2)
theorem wD (h : List Ob) (v : Vl) (s : ByteArray) (l : List Vl) (hh : HpIn h) (g : Uh h) (hv : v.k = 6 → yO h v.r = true) (hl : l.length ≤ 1000000) : Fn Tryz.prog 77 [hpD md h,.agg (vlD v),.v (.string s),vsD l] (.tup [.agg (stD (caS (spS h v s).1 ((spS h v s).2.1 ++ l))),.v (.bool (spS h v s).2.2)]) := by
 refine yL zJ Tryz.func77 rfl rfl rfl rfl rfl rfl ?_;intro w0 s0 mx;refine zL 100 ?_;refine zB (zE zJ [] 200 rfl ?_);refine zF ?_;refine zT _ (uA0 _ _ _ (by first | assumption | omega | (simp_all;done)) (by first | assumption | omega | (simp_all;done)) (by first | assumption | omega | (simp_all;done))) rfl ?_;refine zF ?_;refine zC (zA ?_);refine zB (zU zJ [25] mK18 300 yP (by kernel_rfl) rfl ?_);refine zF ?_;refine qK _ _ _ ((zB0 [(spS h v s).2.1,l] (by have := zV1 h v s;rw [cA0,Ae];omega) (by show 2 ≤ 1000;omega)).args ⟨SubP.slrSl rfl,trivial⟩) ?_;refine zF ?_;refine zT _ ((mV _ ((spS h v s).2.1 ++ l)).args ⟨SubP.refl _,SubP.ownSl (by simp [ctL]),trivial⟩) rfl ?_;refine zF ?_;refine zC (zA (zK ?_));exact FinV.ret rfl (SubP.refl _)
theorem hasAll_ok (h : List Ob) (v : Vl) (l : List ByteArray) (hh : HpIn h) (g : Uh h) (hv : v.k = 6 → yO h v.r = true) (hl : l.length ≤ 1000) : Fn Tryz.prog 106 [hpD md h,.agg (vlD v),.sl me 1 l sD ByteArray.empty] (.v (.bool (l.all fun s => (spS h v s).2.2))) := by
 refine yL zJ Tryz.func106 rfl rfl rfl rfl rfl rfl ?_;intro w0 s0 mx;refine zL 100 ?_;refine zL 200 ?_;refine yH [2,3,4] [0,1] 210 [(7,.v (.int .i64 (cnQ (fun s => (spS h v s).2.2) l 0 : Nat)))] [] ?_;refine ⟨⟨⟨Sub.int rfl,yG⟩,yD,rfl,rfl⟩,?_⟩;refine zB (zL 300 ?_);refine zR ?_;refine yC (ι := {k : Nat // k ≤ l.length}) [2,3,4,13,14] [0,1] 350 (fun x => [(15,.v (.int .i64 x.1)),(7,.v (.int .i64 (cnQ (fun s => (spS h v s).2.2) l x.1 : Nat)))]) (fun _ => []) (fun x => l.length - x.1) ⟨0,Ap _⟩ ?_;refine ⟨⟨⟨Sub.int rfl,Sub.int rfl,yG⟩,yD,rfl,rfl⟩,fun x => ?_⟩;have hk : x.1 ≤ l.length := x.2;have hc := cn_le (fun s => (spS h v s).2.2) l x.1;refine zL 400 ?_;refine zB (zS rfl (fun c3 => ?_) (fun c3 => ?_))
 ·have hlt : x.1 < l.length := by simpa using c3
  refine zN (zA (zB (zR (zL 500 ?_))));refine zB (zE zJ [] 600 rfl ?_);refine zF ?_;refine zT _ (uA0 h v _ hh g hv) rfl ?_;refine zF ?_;refine zC (zA (zL 700 ?_));refine zZ (fun c6 => ?_) (fun c6 => ?_)
  ·
   refine yT zJ [] 800 ?_;refine zP (zA (yT zJ [] 900 ?_));have hN := cn_yes hlt (q := (fun s => (spS h v s).2.2)) (by simpa using c6);exact zV ⟨x.1 + 1,by omega⟩ ⟨⟨Sub.int (by push_cast;rfl),Sub.int (by rw [hN];push_cast;rfl),yG⟩,yD,rfl,rfl⟩ (by show l.length - (x.1 + 1) < l.length - x.1;omega)
  ·
   refine zN (zP (zA (yT zJ [] 900 ?_)));have hN := cn_no hlt (q := (fun s => (spS h v s).2.2)) (by simpa using c6);exact zV ⟨x.1 + 1,by omega⟩ ⟨⟨Sub.int (by push_cast;rfl),Sub.int (by rw [hN]),yG⟩,yD,rfl,rfl⟩ (by show l.length - (x.1 + 1) < l.length - x.1;omega)
 ·have hke : x.1 = l.length := by
   have h9 : ¬ x.1 < l.length := by simpa using c3
   omega
  refine yF (yA (yB (zY (zA (zL 1000 ?_)))));refine zK ?_;exact FinV.ret rfl (SubP.bool (by rw [hke];exact cn_all _ _))
theorem wK {P : Program} {K : DS → Prop} {p : Prop} {r : Out} (hr : r.sat P K) (hp : p := by first | (simp only [Av,kbs,Bi,Ak,Aq];omega) | exact Dz) : (Out.need p r).sat P K := ⟨hp,hr⟩
theorem dU (h : List Ob) (v : Vl) (s : ByteArray) (g : Uh h) (c : Cf h v) (hs : s.size ≤ 2000000) : Fn Tryz.prog 66 [hpD md h,.agg (vlD v),.v (.string s)] (.agg (stD (lkS h v s))) := by
 have hz := gY;have hnz := nm_sz g (clA_in g c);have hoz := obj_sz g v;have hz2 : (⟨#[32,104,97,115,32,110,111,32,97,116,116,114,105,98,117,116,101,32,39]⟩ : ByteArray).size = 19 := by decide
 refine yL zJ Tryz.func66 rfl rfl rfl rfl rfl rfl ?_;intro w0 s0 mx;refine zB (zE zJ [] 100 rfl ?_);repeat (first | refine zG ?_ | refine zH ?_ | refine wK ?_)
 refine zC (zA ?_);refine zB (zE zJ [] 200 rfl ?_);repeat (first | refine zG ?_ | refine zH ?_ | refine wK ?_)
 refine zT _ (dD h v g c) rfl ?_;repeat (first | refine zG ?_ | refine zH ?_ | refine wK ?_)
 refine zC (zA (zB ?_));refine zB (zE zJ [] 300 rfl ?_);repeat (first | refine zG ?_ | refine zH ?_ | refine wK ?_)
 refine zT _ (qJ _ _) rfl ?_;repeat (first | refine zG ?_ | refine zH ?_ | refine wK ?_)
 refine zC (zA ?_);refine zB (zE zJ [] 400 rfl ?_);repeat (first | refine zG ?_ | refine zH ?_ | refine wK ?_)
 refine zC (zA (zR ?_));refine zB (zE zJ [] 500 rfl ?_);repeat (first | refine zG ?_ | refine zH ?_ | refine wK ?_)
 refine zC (zA (zZ (fun c4 => ?_) (fun c4 => ?_)))
 ·
  refine zE zJ [] 600 rfl ?_;repeat (first | refine zG ?_ | refine zH ?_ | refine wK ?_)
  refine zC (zP (zA ?_));refine zB (zE zJ [] 900 rfl ?_);repeat (first | refine zG ?_ | refine zH ?_ | refine wK ?_)
  refine zT _ (wE _ _) rfl ?_;repeat (first | refine zG ?_ | refine zH ?_ | refine wK ?_)
  refine zC (zA (zK ?_));have key : ∀ w : ByteArray,w ++ qB ++ ⟨#[32,104,97,115,32,110,111,32,97,116,116,114,105,98,117,116,101,32,39]⟩ ++ s ++ qB = w ++ nhB ++ s ++ qB := fun w => by
   rw [ByteArray.append_assoc (a := w)];rfl
  rw [show lkS h v s = raS 36 ((cqB ++ (zO h v).name) ++ nhB ++ s ++ qB) by unfold lkS whoS;rw [Ab c4]];rw [← key];exact FinV.ret rfl (SubP.refl _)
 ·
  refine zB (zE zJ [] 700 rfl ?_);repeat (first | refine zG ?_ | refine zH ?_ | refine wK ?_)
  refine zC (zA (zZ (fun c6 => ?_) (fun c6 => ?_)))
  ·
   refine zE zJ [] 800 rfl ?_;repeat (first | refine zG ?_ | refine zH ?_ | refine wK ?_)
   refine zC (zP (zA ?_));refine zB (zE zJ [] 900 rfl ?_);repeat (first | refine zG ?_ | refine zH ?_ | refine wK ?_)
   refine zT _ (wE _ _) rfl ?_;repeat (first | refine zG ?_ | refine zH ?_ | refine wK ?_)
   refine zC (zA (zK ?_));have key : ∀ w : ByteArray,w ++ qB ++ ⟨#[32,104,97,115,32,110,111,32,97,116,116,114,105,98,117,116,101,32,39]⟩ ++ s ++ qB = w ++ nhB ++ s ++ qB := fun w => by
    rw [ByteArray.append_assoc (a := w)];rfl
   rw [show lkS h v s = raS 36 ((mqB ++ (zO h v).name) ++ nhB ++ s ++ qB) by unfold lkS whoS;rw [Aa c4,Ab c6]];rw [← key];exact FinV.ret rfl (SubP.refl _)
  ·
   refine zN (zP (zA ?_));refine zB (zE zJ [] 900 rfl ?_);repeat (first | refine zG ?_ | refine zH ?_ | refine wK ?_)
   refine zT _ (wE _ _) rfl ?_;repeat (first | refine zG ?_ | refine zH ?_ | refine wK ?_)
   refine zC (zA (zK ?_));have key : ∀ w : ByteArray,w ++ qB ++ ⟨#[32,104,97,115,32,110,111,32,97,116,116,114,105,98,117,116,101,32,39]⟩ ++ s ++ qB = w ++ nhB ++ s ++ qB := fun w => by
    rw [ByteArray.append_assoc (a := w)];rfl
   rw [show lkS h v s = raS 36 ((qB ++ (zX h (clA h v)).name) ++ nhB ++ s ++ qB) by unfold lkS whoS;rw [Aa c4,Aa c6]];rw [← key];exact FinV.ret rfl (SubP.refl _)
theorem dV0 {P : Program} {K : DS → Prop} {p : Prop} {r : Out} (hr : r.sat P K) (hp : p := by first | exact ⟨by decide,qW g (.inl c4)⟩ | exact ⟨rfl,qW g (.inl c4)⟩ | exact Dz) : (Out.need p r).sat P K := ⟨hp,hr⟩
theorem qF0 {P : Program} {K : DS → Prop} {p : Prop} {r : Out} (hr : r.sat P K) (hp : p := by first | exact ⟨by decide,qW g (.inr c6)⟩ | exact ⟨rfl,qW g (.inr c6)⟩ | exact Dz) : (Out.need p r).sat P K := ⟨hp,hr⟩
theorem jX {T : List (Nat × TI)} {rs : List ResultVar} {n0 : Nat} {out d : D} {own' : List DOwn} {S : DS} (hk : Nat.ble n0 2 = true := by rfl) (h : finH T S rs = some d := by rfl) (hs : Sub d (out.ren (qH (iota n0) 2)) := by exact Sub.ofP (SubP.agg (SubPs.refl _)) rfl rfl) (ho : mA (iota n0) 2 S.ow 0 own' := by exact ⟨⟨rfl,Sub.mo rfl,rfl,trivial⟩,SubO.mp rfl,trivial⟩) : FinH T rs n0 out own' .ret S := FinH.ret 2 hk h hs ho
theorem vQ0 (h : List Ob) (a v : Vl) (c : Int) (hh : HpIn h) (g : Uh h) (ha : a.k = 6 → yO h a.r = true) (hia : VlIn a) (hiv : VlIn v) (hc : inH h c) : FnG Tryz.prog 65 [.bp 0 0,.agg (vlD a),.agg (vlD v),.v (.int .i64 c),.v (.bool true)] (hpO h) (.agg (stD (bdS h a v c true).1)) (hpO (bdS h a v c true).2) := by
 have hg5 := g.hi;obtain ⟨R,hR⟩ : ∃ R,R = bdS h a v c true := ⟨_,rfl⟩;rw [← hR];refine qS zJ Tryz.func65 rfl rfl rfl rfl rfl rfl rfl ?_;intro w0 s0 mx;refine zL 100 ?_;refine zB (zU zJ [] mK1 200 yP (by kernel_rfl) rfl ?_);refine zF ?_;refine yN _ (qJ h a) rfl rfl ?_;refine zF ?_;refine zC (zA (zB (zR ?_)));refine yH [0,3,4,6,7,10,11] [0,1,2,3,4,105] 210 [] [(105,.box 36 (obD (zO h a)))] ?_;refine ⟨⟨yG,⟨⟨rfl,SubL.same rfl⟩,yD⟩,rfl,rfl⟩,?_⟩;refine zB (zU zJ [] mK26 300 yP (by kernel_rfl) rfl ?_);repeat (first | refine zG ?_ | refine zH ?_ | refine jA ?_ | refine vY ?_ | refine vZ ?_)
 refine dH _ (fun hg6 => xI h a) rfl rfl ?_;repeat (first | refine zG ?_ | refine zH ?_ | refine jA ?_ | refine vY ?_ | refine vZ ?_)
 refine zC (zA (zS rfl (fun c2 => ?_) (fun c2 => ?_)))
 ·have c2 : uT h a = true := by simpa using c2
  refine zB (zE zJ [1033] 400 rfl ?_);refine zF ?_;refine yK _ _ ((uB0 h (mtO a v) (by omega)).args ⟨Sub.refl _,Sub.ofP (SubP.agg ⟨SubP.refl _,SubP.refl _,SubP.refl _,SubP.nilSl rfl,SubP.nilSl rfl,SubP.nilSl rfl,SubP.slrSl rfl,SubP.nilSl rfl,SubP.refl _,SubP.refl _,trivial⟩) rfl rfl,trivial⟩) rfl ?_;refine zF ?_;refine zT _ (jE _) rfl ?_;refine zF ?_;refine zC (zA (zK (zQ (zM ?_))));have hn : R = newS h (mtO a v) := by
   rw [hR];unfold bdS;rw [Ab (by rw [c2];rfl)]
  subst hn;exact jX
 ·have c2 : uT h a = false := by simpa using c2
  refine zL 500 ?_;refine zZ (fun c4 => ?_) (fun c4 => ?_)
  ·
   refine zB (zE zJ [] 600 rfl ?_);repeat (first | refine zG ?_ | refine zH ?_ | refine dV0 ?_)
   refine zT _ (jE _) rfl ?_;repeat (first | refine zG ?_ | refine zH ?_ | refine dV0 ?_)
   refine zC (zA (zK (zQ (zM ?_))));have hn : R = (vlS ((zO h a).items.getD 0 vl0),h) := by
    rw [hR];unfold bdS;rw [Aa (by rw [c2];decide),Ab c4]
   subst hn;exact jX
  ·
   refine zL 700 ?_;refine zZ (fun c6 => ?_) (fun c6 => ?_)
   ·
    refine zB (zU zJ [1057] mK27 800 yP (by kernel_rfl) rfl ?_);repeat (first | refine zG ?_ | refine zH ?_ | refine qF0 ?_)
    refine zT _ (O_ok _) rfl ?_;repeat (first | refine zG ?_ | refine zH ?_ | refine qF0 ?_)
    refine yK _ _ ((uB0 h (mtO ((zO h a).items.getD 0 vl0) (rfV c)) (by omega)).args ⟨Sub.refl _,Sub.ofP (SubP.agg ⟨SubP.refl _,SubP.refl _,SubP.refl _,SubP.nilSl rfl,SubP.nilSl rfl,SubP.nilSl rfl,SubP.slrSl rfl,SubP.nilSl rfl,SubP.refl _,SubP.refl _,trivial⟩) rfl rfl,trivial⟩) rfl ?_;repeat (first | refine zG ?_ | refine zH ?_ | refine qF0 ?_)
    refine zT _ (jE _) rfl ?_;repeat (first | refine zG ?_ | refine zH ?_ | refine qF0 ?_)
    refine zC (zA (zK (zQ (zM ?_))));have hn : R = newS h (mtO ((zO h a).items.getD 0 vl0) (rfV c)) := by
     rw [hR];unfold bdS;rw [Aa (by rw [c2];decide),Aa c4,Ab c6]
    subst hn;exact jX
   ·
    refine zN (zP (zA (zB (zL 900 ?_))));refine uR rfl ?_;refine zN (zA (zB ?_));refine zB (zU zJ [] mK6 1100 yP (by kernel_rfl) rfl ?_);refine zF ?_;refine zT _ (O_ok _) rfl ?_;refine zF ?_;refine yN _ ((wD h a onR [v,rfV c] hh g ha (by show 2 ≤ 1000000;decide)).args ⟨SubP.refl _,SubP.refl _,SubP.refl _,SubP.slrSl (m := false) rfl,trivial⟩) rfl rfl ?_;refine zF ?_;refine zC (zA (zL 1200 ?_));refine zS rfl (fun c11 => ?_) (fun c11 => ?_)
    ·have c11w : (spS h a onR).2.2 = true := by simpa using c11
     refine zL 1300 ?_;refine zK (zM ?_);have hn : R = (caS (spS h a onR).1 ((spS h a onR).2.1 ++ [v,rfV c]),h) := by
      rw [hR];unfold bdS;rw [Aa (by rw [c2];decide),Aa c4,Aa c6,Ab c11w];rfl
     subst hn;exact jX
    ·have c11w : (spS h a onR).2.2 = false := by simpa using c11
     refine zN (zA ?_);refine zB (zE zJ [] 1400 rfl ?_);refine zF ?_;refine zT _ (jE _) rfl ?_;refine zF ?_;refine zC (zA (zK ?_));have hn : R = (vlS a,h) := by
      rw [hR];unfold bdS;rw [Aa (by rw [c2];decide),Aa c4,Aa c6,Aa (by rw [c11w];decide)]
     subst hn;exact jX
theorem dI0 (h : List Ob) (a v : Vl) (c : Int) (hh : HpIn h) (g : Uh h) (ha : a.k = 6 → yO h a.r = true) (hia : VlIn a) (hiv : VlIn v) (hc : inH h c) : FnG Tryz.prog 65 [.bp 0 0,.agg (vlD a),.agg (vlD v),.v (.int .i64 c),.v (.bool false)] (hpO h) (.agg (stD (bdS h a v c false).1)) (hpO (bdS h a v c false).2) := by
 have hg5 := g.hi;obtain ⟨R,hR⟩ : ∃ R,R = bdS h a v c false := ⟨_,rfl⟩;rw [← hR];refine qS zJ Tryz.func65 rfl rfl rfl rfl rfl rfl rfl ?_;intro w0 s0 mx;refine zL 100 ?_;refine zB (zU zJ [] mK1 200 yP (by kernel_rfl) rfl ?_);refine zF ?_;refine yN _ (qJ h a) rfl rfl ?_;refine zF ?_;refine zC (zA (zB (zR ?_)));refine yH [0,3,4,6,7,10,11] [0,1,2,3,4,105] 210 [] [(105,.box 36 (obD (zO h a)))] ?_;refine ⟨⟨yG,⟨⟨rfl,SubL.same rfl⟩,yD⟩,rfl,rfl⟩,?_⟩;refine zB (zU zJ [] mK26 300 yP (by kernel_rfl) rfl ?_);repeat (first | refine zG ?_ | refine zH ?_ | refine jA ?_ | refine vY ?_ | refine vZ ?_)
 refine bE (.v (.bool false)) rfl ?_;repeat (first | refine zG ?_ | refine zH ?_ | refine jA ?_ | refine vY ?_ | refine vZ ?_)
 refine zC (zA (zS rfl (fun c2 => ?_) (fun c2 => ?_)))
 ·
  exact absurd c2 (by simp)
 ·
  refine zL 500 ?_;refine zZ (fun c4 => ?_) (fun c4 => ?_)
  ·
   refine zB (zE zJ [] 600 rfl ?_);repeat (first | refine zG ?_ | refine zH ?_ | refine dV0 ?_)
   refine zT _ (jE _) rfl ?_;repeat (first | refine zG ?_ | refine zH ?_ | refine dV0 ?_)
   refine zC (zA (zK (zQ (zM ?_))));have hn : R = (vlS ((zO h a).items.getD 0 vl0),h) := by
    rw [hR];unfold bdS;rw [Aa (by simp),Ab c4]
   subst hn;exact jX
  ·
   refine zL 700 ?_;refine zZ (fun c6 => ?_) (fun c6 => ?_)
   ·
    refine zB (zU zJ [1057] mK27 800 yP (by kernel_rfl) rfl ?_);repeat (first | refine zG ?_ | refine zH ?_ | refine qF0 ?_)
    refine zT _ (O_ok _) rfl ?_;repeat (first | refine zG ?_ | refine zH ?_ | refine qF0 ?_)
    refine yK _ _ ((uB0 h (mtO ((zO h a).items.getD 0 vl0) (rfV c)) (by omega)).args ⟨Sub.refl _,Sub.ofP (SubP.agg ⟨SubP.refl _,SubP.refl _,SubP.refl _,SubP.nilSl rfl,SubP.nilSl rfl,SubP.nilSl rfl,SubP.slrSl rfl,SubP.nilSl rfl,SubP.refl _,SubP.refl _,trivial⟩) rfl rfl,trivial⟩) rfl ?_;repeat (first | refine zG ?_ | refine zH ?_ | refine qF0 ?_)
    refine zT _ (jE _) rfl ?_;repeat (first | refine zG ?_ | refine zH ?_ | refine qF0 ?_)
    refine zC (zA (zK (zQ (zM ?_))));have hn : R = newS h (mtO ((zO h a).items.getD 0 vl0) (rfV c)) := by
     rw [hR];unfold bdS;rw [Aa (by simp),Aa c4,Ab c6]
    subst hn;exact jX
   ·
    refine zN (zP (zA (zB (zL 900 ?_))));refine dQ rfl ?_;refine yT zJ [] 1000 ?_;refine zA (zB ?_);refine zB (zU zJ [] mK6 1100 yP (by kernel_rfl) rfl ?_);refine zF ?_;refine zT _ (O_ok _) rfl ?_;refine zF ?_;refine yN _ ((wD h a onR [vl0,rfV c] hh g ha (by show 2 ≤ 1000000;decide)).args ⟨SubP.refl _,SubP.refl _,SubP.refl _,SubP.slrRows (by repeat (first | exact trivial | exact SubPs.refl _ | exact SubP.refl _ | exact SubP.nilSl rfl | refine ⟨?_,?_⟩)),trivial⟩) rfl rfl ?_;refine zF ?_;refine zC (zA (zL 1200 ?_));refine zS rfl (fun c11 => ?_) (fun c11 => ?_)
    ·have c11w : (spS h a onR).2.2 = true := by simpa using c11
     refine zL 1300 ?_;refine zK (zM ?_);have hn : R = (caS (spS h a onR).1 ((spS h a onR).2.1 ++ [vl0,rfV c]),h) := by
      rw [hR];unfold bdS;rw [Aa (by simp),Aa c4,Aa c6,Ab c11w];rfl
     subst hn;exact jX
    ·have c11w : (spS h a onR).2.2 = false := by simpa using c11
     refine zN (zA ?_);refine zB (zE zJ [] 1400 rfl ?_);refine zF ?_;refine zT _ (jE _) rfl ?_;refine zF ?_;refine zC (zA (zK ?_));have hn : R = (vlS a,h) := by
      rw [hR];unfold bdS;rw [Aa (by simp),Aa c4,Aa c6,Aa (by rw [c11w];decide)]
     subst hn;exact jX
theorem gR0 {P : Program} {K : DS → Prop} {p : Prop} {r : Out} (hr : r.sat P K) (hp : p := by first | exact fun hh9 => absurd hh9 (by decide) | exact ⟨by decide,by rw [prop_item g (by assumption)];decide⟩ | exact fun hh9 => ⟨by decide,by rw [prop_item g (by simpa using hh9)];decide⟩ | exact ⟨rfl,by rw [prop_item g (by assumption)];decide⟩ | exact fun hh9 => by rw [prop_item g (by simpa using hh9)];decide | exact Dz) : (Out.need p r).sat P K := ⟨hp,hr⟩
theorem GottenT_G (h : List Ob) (v a : Vl) (s : ByteArray) (hh : HpIn h) (g : Uh h) (hk : (zO h v).kind = 10) (hv : qQ h v = true) (ha : a.k = 6 → yO h a.r = true) (hia : VlIn a) (hiv : VlIn v) (hs : s.size ≤ 100) : FnG Tryz.prog 61 [.bp 0 0,.agg (vlD v),.v (.string s),.agg (vlD a),.v (.bool true)] (hpO h) (.agg (stD (wiS h v s a true).1)) (hpO (wiS h v s a true).2) := by
 have hg5 := g.hi;obtain ⟨R,hR⟩ : ∃ R,R = wiS h v s a true := ⟨_,rfl⟩;rw [← hR];obtain ⟨h6,hob,eo⟩ := qD (h := h) (v := v) (by omega);have hin := yJ hob;have hcin := inst_cls g hk;have hvr : v.k = 6 → yO h v.r = true := fun _ => hob;refine qS zJ Tryz.func61 rfl rfl rfl rfl rfl rfl rfl ?_;intro w0 s0 mx;refine zL 100 ?_;refine zB (zU zJ [] mK1 200 yP (by kernel_rfl) rfl ?_);refine zF ?_;refine yN _ (qJ h v) rfl rfl ?_;refine zF ?_;refine zC (zA ?_);refine yH [0,2,4,6,8,10,11] [0,1,2,3,4,105] 210 [] [(105,.box 36 (obD (zO h v)))] ?_;refine ⟨⟨yG,⟨⟨rfl,SubL.same rfl⟩,yD⟩,rfl,rfl⟩,?_⟩;refine zB (zE zJ [] 300 rfl ?_);refine zF ?_;refine zT _ (gM0 (zO h v) s (wL g v) (kD hh v).nl) rfl ?_;refine zF ?_;refine zC (zA ?_);refine zB (zU zJ [] mK1 400 yP (by kernel_rfl) rfl ?_);refine zF ?_;refine yN _ (qJ h a) rfl rfl ?_;refine zF ?_;refine zC (zA (zB (zR ?_)));refine yH [0,2,4,6,8,10,11,12,13,14] [0,1,2,3,4,105,216,305] 410 [] [(305,.box 36 (obD (zO h a)))] ?_;refine ⟨⟨yG,⟨⟨rfl,SubL.same rfl⟩,yD⟩,rfl,rfl⟩,?_⟩;refine zB (zE zJ [] 500 rfl ?_);repeat (first | refine zG ?_ | refine zH ?_ | refine gR0 ?_ | refine vY ?_ | refine vZ ?_)
 refine zC (zA (zS rfl (fun c4 => ?_) (fun c4 => ?_)))
 ·have c4w : (zO h a).kind = 12 ∧ ((zO h a).items.getD 0 vl0).k = 0 := by simpa using c4
  refine zB (zE zJ [] 600 rfl ?_);refine zF ?_;refine zT _ ((mO s ⟨#[114,101,97,100]⟩ (by omega) (by decide)).out (SubP.of_eq (by rw [cE0]))) rfl ?_;refine zF ?_;refine zC (zA (zK (zQ (zM ?_))));have c3w := c4w.1;have hn : R = (raS 36 (atB ++ s ++ cnrB),h) := by
   rw [hR];unfold wiS;rw [Ab ⟨rfl,c3w⟩,gtS,Ab c4w.2]
  subst hn;exact jX
 ·have c4w : ¬ ((zO h a).kind = 12 ∧ ((zO h a).items.getD 0 vl0).k = 0) := by simpa using c4
  refine zL 700 ?_;refine zS rfl (fun c6 => ?_) (fun c6 => ?_)
  ·have c3w : (zO h a).kind = 12 := by simpa using c6
   have c3n : ¬ ((zO h a).items.getD 0 vl0).k = 0 := fun hh9 => c4w ⟨c3w,hh9⟩;refine zB (zU zJ [] mK12 800 yP (by kernel_rfl) rfl ?_);repeat (first | refine zG ?_ | refine zH ?_ | refine gR0 ?_)
   refine zT _ ((mV _ [v]).args ⟨SubP.refl _,SubP.slrSl (m := false) rfl,trivial⟩) rfl ?_;repeat (first | refine zG ?_ | refine zH ?_ | refine gR0 ?_)
   refine zC (zA (zK (zQ (zM ?_))));have hn : R = (caS ((zO h a).items.getD 0 vl0) [v],h) := by
    rw [hR];unfold wiS;rw [Ab ⟨rfl,c3w⟩,gtS,Aa c3n]
   subst hn;exact jX
  ·have c3w : ¬ (zO h a).kind = 12 := by simpa using c6
   refine zB (zU zJ [] mK28 900 yP (by kernel_rfl) rfl ?_);repeat (first | refine zG ?_ | refine zH ?_ | refine jA ?_ | refine vY ?_ | refine vZ ?_)
   refine dH _ (fun hg7 => (hasAll_ok h a [onR,onW] hh g ha (by show 2 ≤ 1000;decide)).args ⟨SubP.refl _,SubP.refl _,SubP.slrSl (m := false) rfl,trivial⟩) rfl rfl ?_;repeat (first | refine zG ?_ | refine zH ?_ | refine jA ?_ | refine vY ?_ | refine vZ ?_)
   refine zC (zA (zS rfl (fun c8 => ?_) (fun c8 => ?_)))
   ·have c5w : (spS h a onR).2.2 = true ∧ (spS h a onW).2.2 = true := by simpa using c8
    refine zB (zE zJ [1079] 1000 rfl ?_);refine zF ?_;refine yK _ _ (vQ0 h a v (zO h v).cls hh g ha hia hiv hcin) rfl ?_;refine zF ?_;refine zC (zA (zK (zQ (zM ?_))));have hn : R = bdS h a v (zO h v).cls true := by
     rw [hR];unfold wiS;rw [Aa (fun hh9 => c3w hh9.2),Ab ⟨rfl,c5w⟩]
    subst hn;exact jX
   ·have c5w : ¬ ((spS h a onR).2.2 = true ∧ (spS h a onW).2.2 = true) := by simpa using c8
    refine zL 1100 ?_;refine zS rfl (fun c10 => ?_) (fun c10 => ?_)
    ·have c10w : ownB (zO h v) s = true := by simpa using c10
     refine zB (zE zJ [] 1200 rfl ?_);refine zF ?_;refine zT _ (jE _) rfl ?_;refine zF ?_;refine zC (zA (zK (zQ (zM ?_))));have hn : R = (vlS (ownV (zO h v) s),h) := by
      rw [hR];unfold wiS;rw [Aa (fun hh9 => c3w hh9.2),Aa (fun hh9 => c5w hh9.2),Ab c10w]
     subst hn;exact jX
    ·have c10w : ownB (zO h v) s = false := by simpa using c10
     refine zL 1300 ?_;refine dQ rfl ?_;refine zB (zE zJ [1091] 1400 rfl ?_);refine zF ?_;refine yK _ _ (vQ0 h a v (zO h v).cls hh g ha hia hiv hcin) rfl ?_;refine zF ?_;refine zC (zA (zK (zQ (zM ?_))));have hn : R = bdS h a v (zO h v).cls true := by
      rw [hR];unfold wiS;rw [Aa (fun hh9 => c3w hh9.2),Aa (fun hh9 => c5w hh9.2),Aa (by rw [c10w];decide),Ab rfl]
     subst hn;exact jX
theorem GottenF_G (h : List Ob) (v a : Vl) (s : ByteArray) (hh : HpIn h) (g : Uh h) (hk : (zO h v).kind = 10) (hv : qQ h v = true) (ha : a.k = 6 → yO h a.r = true) (hia : VlIn a) (hiv : VlIn v) (hs : s.size ≤ 100) : FnG Tryz.prog 61 [.bp 0 0,.agg (vlD v),.v (.string s),.agg (vlD a),.v (.bool false)] (hpO h) (.agg (stD (wiS h v s a false).1)) (hpO (wiS h v s a false).2) := by
 have hg5 := g.hi;obtain ⟨R,hR⟩ : ∃ R,R = wiS h v s a false := ⟨_,rfl⟩;rw [← hR];obtain ⟨h6,hob,eo⟩ := qD (h := h) (v := v) (by omega);have hin := yJ hob;have hcin := inst_cls g hk;have hvr : v.k = 6 → yO h v.r = true := fun _ => hob;refine qS zJ Tryz.func61 rfl rfl rfl rfl rfl rfl rfl ?_;intro w0 s0 mx;refine zL 100 ?_;refine zB (zU zJ [] mK1 200 yP (by kernel_rfl) rfl ?_);refine zF ?_;refine yN _ (qJ h v) rfl rfl ?_;refine zF ?_;refine zC (zA ?_);refine yH [0,2,4,6,8,10,11] [0,1,2,3,4,105] 210 [] [(105,.box 36 (obD (zO h v)))] ?_;refine ⟨⟨yG,⟨⟨rfl,SubL.same rfl⟩,yD⟩,rfl,rfl⟩,?_⟩;refine zB (zE zJ [] 300 rfl ?_);refine zF ?_;refine zT _ (gM0 (zO h v) s (wL g v) (kD hh v).nl) rfl ?_;refine zF ?_;refine zC (zA ?_);refine zB (zU zJ [] mK1 400 yP (by kernel_rfl) rfl ?_);refine zF ?_;refine yN _ (qJ h a) rfl rfl ?_;refine zF ?_;refine zC (zA (zB (zR ?_)));refine yH [0,2,4,6,8,10,11,12,13,14] [0,1,2,3,4,105,216,305] 410 [] [(305,.box 36 (obD (zO h a)))] ?_;refine ⟨⟨yG,⟨⟨rfl,SubL.same rfl⟩,yD⟩,rfl,rfl⟩,?_⟩;refine zB (zE zJ [] 500 rfl ?_);repeat (first | refine zG ?_ | refine zH ?_ | refine zW (by first | exact (fun hh9 => by simp at hh9) | exact Dz) ?_ | refine vY ?_ | refine vZ ?_)
 refine zC (zA ?_);refine uR rfl ?_;refine zL 700 ?_;refine uR rfl ?_;refine zB (zU zJ [] mK28 900 yP (by kernel_rfl) rfl ?_);repeat (first | refine zG ?_ | refine zH ?_ | refine jA ?_ | refine vY ?_ | refine vZ ?_)
 refine bE (.v (.bool false)) rfl ?_;repeat (first | refine zG ?_ | refine zH ?_ | refine jA ?_ | refine vY ?_ | refine vZ ?_)
 refine zC (zA ?_);refine uR rfl ?_;refine zL 1100 ?_;refine zS rfl (fun c10 => ?_) (fun c10 => ?_)
 ·have c10w : ownB (zO h v) s = true := by simpa using c10
  refine zB (zE zJ [] 1200 rfl ?_);refine zF ?_;refine zT _ (jE _) rfl ?_;refine zF ?_;refine zC (zA (zK (zQ (zM ?_))));have hn : R = (vlS (ownV (zO h v) s),h) := by
   rw [hR];unfold wiS;rw [Aa (fun hh9 => by cases hh9.1),Aa (fun hh9 => by cases hh9.1),Ab c10w]
  subst hn;exact jX
 ·have c10w : ownB (zO h v) s = false := by simpa using c10
  refine zL 1300 ?_;refine uR rfl ?_;refine zN (zP (zA (zB ?_)));refine zB (zU zJ [] mK21 1500 yP (by kernel_rfl) rfl ?_);refine zF ?_;refine zT _ (T_ok _) rfl ?_;refine zF ?_;refine yN _ ((wD h v onM [txV s] hh g hvr (by show 1 ≤ 1000000;decide)).args ⟨SubP.refl _,SubP.refl _,SubP.refl _,SubP.slrSl (m := false) rfl,trivial⟩) rfl rfl ?_;refine zF ?_;refine zC (zA (zL 1600 ?_));refine zS rfl (fun c15 => ?_) (fun c15 => ?_)
  ·have c15w : (spS h v onM).2.2 = true := by simpa using c15
   refine zL 1700 ?_;refine zK (zM ?_);have hn : R = (caS (spS h v onM).1 ((spS h v onM).2.1 ++ [txV s]),h) := by
    rw [hR];unfold wiS;rw [Aa (fun hh9 => by cases hh9.1),Aa (fun hh9 => by cases hh9.1),Aa (by rw [c10w];decide),Aa (by decide),Ab c15w]
   subst hn;exact jX
  ·have c15w : (spS h v onM).2.2 = false := by simpa using c15
   refine zN (zA ?_);refine zB (zU zJ [] mK2 1800 yP (by kernel_rfl) rfl ?_);refine zF ?_;refine yN _ (dU h v s g (cf_of g hv) (by omega)) rfl rfl ?_;refine zF ?_;refine zC (zA (zK ?_));have hn : R = (lkS h v s,h) := by
    rw [hR];unfold wiS;rw [Aa (fun hh9 => by cases hh9.1),Aa (fun hh9 => by cases hh9.1),Aa (by rw [c10w];decide),Aa (by decide),Aa (by rw [c15w];decide)]
   subst hn;exact jX
theorem Gotten_G (h : List Ob) (v a : Vl) (s : ByteArray) (ok : Bool) (hh : HpIn h) (g : Uh h) (hk : (zO h v).kind = 10) (hv : qQ h v = true) (ha : a.k = 6 → yO h a.r = true) (hia : VlIn a) (hiv : VlIn v) (hs : s.size ≤ 100) : FnG Tryz.prog 61 [.bp 0 0,.agg (vlD v),.v (.string s),.agg (vlD a),.v (.bool ok)] (hpO h) (.agg (stD (wiS h v s a ok).1)) (hpO (wiS h v s a ok).2) := by
 cases ok
 ·exact GottenF_G h v a s hh g hk hv ha hia hiv hs
 ·exact GottenT_G h v a s hh g hk hv ha hia hiv hs
theorem cD0 (h : List Ob) (a v : Vl) (c : Int) (b : Bool) (hh : HpIn h) (g : Uh h) (ha : a.k = 6 → yO h a.r = true) (hia : VlIn a) (hiv : VlIn v) (hc : inH h c) : FnG Tryz.prog 65 [.bp 0 0,.agg (vlD a),.agg (vlD v),.v (.int .i64 c),.v (.bool b)] (hpO h) (.agg (stD (bdS h a v c b).1)) (hpO (bdS h a v c b).2) := by
 cases b
 ·exact dI0 h a v c hh g ha hia hiv hc
 ·exact vQ0 h a v c hh g ha hia hiv hc
theorem yC1 {P : Program} {K : DS → Prop} {p : Prop} {r : Out} (hr : r.sat P K) (hp : p := by first | exact ⟨by rw [← hCt];exact hsin.1,by rw [← hCt];exact hsin.2⟩ | exact ⟨hsin.1,hsin.2⟩ | exact ⟨rfl,hsin.2⟩ | exact ⟨by simp [MR.len],by simpa [MR.len] using hsin.2⟩ | rfl | (simp only [MR.len];done) | exact Dz) : (Out.need p r).sat P K := ⟨hp,hr⟩
theorem yB1 {P : Program} {K : DS → Prop} {p : Prop} {r : Out} (hr : r.sat P K) (hp : p := by first | exact ⟨by decide,by rw [hl2];decide⟩ | exact ⟨rfl,by rw [hl2];decide⟩ | exact ⟨by decide,by rw [Bf];show 0 < _;omega⟩ | exact ⟨rfl,by rw [Bf];show 0 < _;omega⟩ | exact Dz) : (Out.need p r).sat P K := ⟨hp,hr⟩
theorem gQ0 {P : Program} {K : DS → Prop} {p : Prop} {r : Out} (hr : r.sat P K) (hp : p := by first | (rw [Bf];omega) | exact ⟨by decide,by rw [Bf];omega,Int.le_refl _⟩ | exact ⟨by decide,by rw [Bf];omega⟩ | exact Dz) : (Out.need p r).sat P K := ⟨hp,hr⟩
set_option maxHeartbeats 2000000 in
theorem upward_G (h : List Ob) (v : Vl) (s : ByteArray) (hh : HpIn h) (g : Uh h) (hk : (zO h v).kind = 15) (hs : s.size ≤ 100) : FnG Tryz.prog 67 [.bp 0 0,.agg (obD (zO h v)),.v (.string s)] (hpO h) (.agg (stD (upS h (zO h v) s).1)) (hpO (upS h (zO h v) s).2) := by
 have hg5 := g.hi;obtain ⟨R,hR⟩ : ∃ R,R = upS h (zO h v) s := ⟨_,rfl⟩;rw [← hR];obtain ⟨hl2,hsin,hsh,hs109⟩ := su_links g hk;obtain ⟨h6,hob,eo⟩ := qD (h := h) (v := v) (by omega);have hin := yJ hob;have hz := gY;have hwm : ((zO h v).items.getD 1 vl0) ∈ (zO h v).items := by
  rw [Ai,Ac (by omega)];exact Ca _
 have hwr : ((zO h v).items.getD 1 vl0).k = 6 → yO h ((zO h v).items.getD 1 vl0).r = true := fun hk9 => g.items hin (by rw [← eo];exact hwm) hk9;have hwi := (vD (gc_obj g hh v) 1).1.vin;obtain ⟨C,hC⟩ : ∃ C,C = suC h (zO h v) := ⟨_,rfl⟩;have hCe : suC h (zO h v) = if (zO h ((zO h v).items.getD 1 vl0)).kind = 10 then (zO h ((zO h v).items.getD 1 vl0)).cls else ((zO h v).items.getD 1 vl0).r := rfl;rw [← hC] at hsin hsh hCe;have hrg := pF0 hsh;have hol := (hh.at C).ol;have hck := aft_in hh g hsin ((zO h v).items.getD 0 vl0).r;have hsa : suA h (zO h v) s = fdO h (aftL (zX h C).order ((zO h v).items.getD 0 vl0).r) s := by unfold suA;rw [← hC]
 obtain ⟨A,hA⟩ : ∃ A,A = fdV h s (suA h (zO h v) s) := ⟨_,rfl⟩;obtain ⟨S,hS⟩ : ∃ S,S = suA h (zO h v) s := ⟨_,rfl⟩;have har : A.k = 6 → yO h A.r = true := fun hk9 => by
  rw [hA,hsa] at hk9 ⊢
  cases hf : fdO h (aftL (zX h C).order ((zO h v).items.getD 0 vl0).r) s with
  | none => rw [hf] at hk9;exact absurd hk9 (show ¬ (0 : Int) = 6 by decide)
  | some r =>
   rw [hf] at hk9;exact own_rv g (hck.2 r (Cw hf)).1 s hk9
 have hai : VlIn A := by rw [hA,hsa];exact (gc_fd g hh (fun r hr => (hck.2 r hr).1) s).1.vin
 rw [← hS] at hA hsa;obtain ⟨N,hN⟩ : ∃ N,N = ((zO h v).items.getD 0 vl0).r := ⟨_,rfl⟩;rw [← hN] at hrg hsa hsh;refine qS zJ Tryz.func67 rfl rfl rfl rfl rfl rfl rfl ?_;intro w0 s0 mx;refine zL 100 ?_;refine zB (zE zJ [] 200 rfl ?_);repeat (first | refine zG ?_ | refine zH ?_ | refine zW (by first | exact ⟨by decide,by rw [hl2];decide⟩ | exact ⟨rfl,by rw [hl2];decide⟩ | exact Dz) ?_)
 refine zC (zA ?_);refine yH [0,2,4,6,7] [0,1,2,3,104] 210 [] [(104,.box 29 (vlD ((zO h v).items.getD 1 vl0)))] ?_;refine ⟨⟨yG,⟨⟨rfl,SubL.same rfl⟩,yD⟩,rfl,rfl⟩,?_⟩;refine zB (zU zJ [] mK1 300 yP (by kernel_rfl) rfl ?_);refine zF ?_;refine yN _ (qJ h ((zO h v).items.getD 1 vl0)) rfl rfl ?_;refine zF ?_;refine zC (zA ?_);refine zB (zU zJ [] [[],[0],[],[2],[2,3],[0,1],(rgN 6)] 400 yP (by kernel_rfl) rfl ?_);refine zF ?_;refine zC (zA (zB (zL 500 ?_)));refine zS rfl (fun c4 => ?_) (fun c4 => ?_)
 ·have c4w : (zO h ((zO h v).items.getD 1 vl0)).kind = 10 := by simpa using c4
  rw [Ab c4w] at hCe;refine yT zJ [] 600 ?_;refine zA ?_;refine yH [0,2,4,6,7] [0,1,2,3,104] 610 [(9,.v (.int .i64 C)),(10,.v (.bool true))] [(215,.box 36 (obD (zO h ((zO h v).items.getD 1 vl0))))] ?_;refine ⟨⟨⟨Sub.int hCe.symm,Sub.bool (by simpa using c4w),yG⟩,⟨⟨rfl,SubL.same rfl⟩,yD⟩,rfl,rfl⟩,?_⟩;refine zB (zE zJ [] 700 rfl ?_);repeat (first | refine zG ?_ | refine zH ?_ | refine yC1 ?_)
  refine zC (zA (zB (zR ?_)));refine yC (ι := {k : Nat // k ≤ (ixI (zX h C).order N).toNat}) [0,2,4,6,7,9,10] [0,1,2,3,104] 750 (fun x => [(11,.sl false 1 ((zX h C).order.drop x.1) iD 0)]) (fun _ => []) (fun x => (ixI (zX h C).order N).toNat - x.1) ⟨0,Ap _⟩ ?_;refine ⟨⟨⟨Sub.slSl rfl,yG⟩,yD,rfl,rfl⟩,fun x => ?_⟩;have hkx : x.1 ≤ (ixI (zX h C).order N).toNat := x.2;refine zB ?_;refine zB (zU zJ [] [[],[0],[0,1],[],[3],[3,4],[3,4,5],[3,4,5,6],(rgN 8)] 800 yP (by kernel_rfl) rfl ?_);repeat (first | refine zG ?_ | refine zH ?_ | refine yB1 ?_)
  refine zC (zA (zS rfl (fun c7 => ?_) (fun c7 => ?_)))
  ·have c7w : ¬ (zX h C).order.getD x.1 0 = N := by
    have h9 : ¬ (zX h C).order.getD x.1 0 = ((zO h v).items.getD 0 vl0).r := by
     have h8 : ¬ ((zX h C).order.drop x.1).getD (Int.toNat 0) 0 = ((zO h v).items.getD 0 vl0).r := by simpa using c7
     rwa [xW0] at h8
    exact fun e9 => h9 (e9.trans hN)
   have hxl : x.1 < (ixI (zX h C).order N).toNat := by
    rcases Cc x.1 (ixI (zX h C).order N).toNat with h9 | h9
    ·exact h9
    ·exact absurd (by rw [show x.1 = (ixI (zX h C).order N).toNat by omega];exact tG0 hsh) c7w
   refine zN (zA (zR ?_));refine zE zJ [] 900 rfl ?_;repeat (first | refine zG ?_ | refine zH ?_ | refine gQ0 ?_)
   refine zC (zP ?_);exact zV ⟨x.1 + 1,by omega⟩ ⟨⟨Sub.slSl (by rw [← List.drop_drop];exact congrArg (List.map iD) (cU _ 1)),yG⟩,yD,rfl,rfl⟩ (by show (ixI (zX h C).order N).toNat - (x.1 + 1) < (ixI (zX h C).order N).toNat - x.1;omega)
  ·have c7w : (zX h C).order.getD x.1 0 = N := by
    have h9 : (zX h C).order.getD x.1 0 = ((zO h v).items.getD 0 vl0).r := by
     have h8 : ((zX h C).order.drop x.1).getD (Int.toNat 0) 0 = ((zO h v).items.getD 0 vl0).r := by simpa using c7
     rwa [xW0] at h8
    exact h9.trans hN.symm
   have hxe : x.1 = (ixI (zX h C).order N).toNat := xI0 (by omega) x.2 hrg.1 c7w;refine yF (yA (yB (zY (zA ?_))));refine zB (zU zJ [] mK13 1000 yP (by kernel_rfl) rfl ?_);repeat (first | refine zG ?_ | refine zH ?_ | refine gQ0 ?_)
   refine yN _ ((yU0 h (aftL (zX h C).order N) s hh (by rw [hN];exact hck)).args ⟨SubP.refl _,SubP.of_eq (by show D.sl false 1 _ iD 0 = .sl false 1 _ iD 0;congr 1;unfold aftL;rw [hxe,show (ixI (zX h C).order N + 1).toNat = (ixI (zX h C).order N).toNat + 1 by omega,← List.drop_drop];exact cU _ 1),SubP.refl _,trivial⟩) rfl rfl ?_;repeat (first | refine zG ?_ | refine zH ?_ | refine gQ0 ?_)
   refine zC (zA (zB ?_));refine yH [0,2,6,7,9,10,12] [0,1,3,104,811] 1010 [(14,.v (.bool S.isSome))] [(811,.box 29 (vlD A))] ?_;refine ⟨⟨⟨Sub.bool (by rw [hsa]),yG⟩,⟨⟨rfl,by rw [hA,hsa];exact SubL.same rfl⟩,yD⟩,rfl,rfl⟩,?_⟩;refine zL 1100 ?_;refine zS rfl (fun c10 => ?_) (fun c10 => ?_)
   ·have c10w : S.isSome = false := by simpa using c10
    refine zB (zE zJ [] 1200 rfl ?_);repeat (first | refine zG ?_ | refine zH ?_ | refine wK ?_)
    refine zT _ (wE _ _) rfl ?_;repeat (first | refine zG ?_ | refine zH ?_ | refine wK ?_)
    refine zC (zA (zK (zM ?_)));have hn : R = (raS 36 (suB ++ s ++ qB),h) := by
     rw [hR];unfold upS;rw [← hS];rw [Ab c10w]
    subst hn;exact jX
   ·have c10w : S.isSome = true := by simpa using c10
    refine zN (zA (zB ?_));refine zB (zU zJ [] mK1 1300 yP (by kernel_rfl) rfl ?_);refine zF ?_;refine yN _ (qJ h A) rfl rfl ?_;refine zF ?_;refine zC (zA ?_);refine yH [0,2,6,7,9,10,12,15] [0,1,3,104,811,1105] 1310 [] [(1105,.box 36 (obD (zO h A)))] ?_;refine ⟨⟨yG,⟨⟨rfl,SubL.same rfl⟩,yD⟩,rfl,rfl⟩,?_⟩;refine zL 1400 ?_;refine zS rfl (fun c13 => ?_) (fun c13 => ?_)
    ·have c13w : (zO h A).kind = 12 := by simpa using c13
     refine zB ?_;refine zB (zE zJ [] 1500 rfl ?_);repeat (first | refine zG ?_ | refine zH ?_ | refine gR0 ?_)
     refine zC (zA (zS rfl (fun c14 => ?_) (fun c14 => ?_)))
     ·have c14w : ((zO h A).items.getD 0 vl0).k = 0 := by simpa using c14
      refine zB (zE zJ [] 1600 rfl ?_);refine zF ?_;refine zT _ ((mO s ⟨#[114,101,97,100]⟩ (by omega) (by decide)).out (SubP.of_eq (by rw [cE0]))) rfl ?_;refine zF ?_;refine zC (zA (zK (zM (zM ?_))));have hn : R = (raS 36 (atB ++ s ++ cnrB),h) := by
       rw [hR];unfold upS;rw [← hS];rw [← hA,← hC];rw [Aa (by rw [c10w];decide),Aa (not_not_intro c4w),Ab c13w,gtS,Ab c14w]
      subst hn;exact jX
     ·have c14w : ¬ ((zO h A).items.getD 0 vl0).k = 0 := by simpa using c14
      refine zN (zA ?_);refine zB (zU zJ [] mK12 1700 yP (by kernel_rfl) rfl ?_);repeat (first | refine zG ?_ | refine zH ?_ | refine gR0 ?_)
      refine zT _ ((mV _ [((zO h v).items.getD 1 vl0)]).args ⟨SubP.refl _,SubP.slrSl (m := false) rfl,trivial⟩) rfl ?_;repeat (first | refine zG ?_ | refine zH ?_ | refine gR0 ?_)
      refine zC (zA (zK (zM ?_)));have hn : R = (caS ((zO h A).items.getD 0 vl0) [((zO h v).items.getD 1 vl0)],h) := by
       rw [hR];unfold upS;rw [← hS];rw [← hA,← hC];rw [Aa (by rw [c10w];decide),Aa (not_not_intro c4w),Ab c13w,gtS,Aa c14w]
      subst hn;exact jX
    ·have c13w : ¬ (zO h A).kind = 12 := by simpa using c13
     refine zN (zA ?_);refine zB (zE zJ [1100] 1800 rfl ?_);refine zF ?_;refine yK _ _ (cD0 h A ((zO h v).items.getD 1 vl0) C true hh g har hai hwi hsin) rfl ?_;refine zF ?_;refine zC (zA (zK ?_));have hn : R = bdS h A ((zO h v).items.getD 1 vl0) C true := by
      rw [hR];unfold upS;rw [← hS];rw [← hA,← hC];rw [Aa (by rw [c10w];decide),Aa (not_not_intro c4w),Aa c13w]
     subst hn;exact jX
 ·have c4w : ¬ (zO h ((zO h v).items.getD 1 vl0)).kind = 10 := by simpa using c4
  rw [Aa c4w] at hCe;refine zN (zA ?_);refine yH [0,2,4,6,7] [0,1,2,3,104] 510 [(9,.v (.int .i64 C)),(10,.v (.bool false))] [(215,.box 36 (obD (zO h ((zO h v).items.getD 1 vl0))))] ?_;refine ⟨⟨⟨Sub.int hCe.symm,Sub.bool (by simpa using c4w),yG⟩,⟨⟨rfl,SubL.same rfl⟩,yD⟩,rfl,rfl⟩,?_⟩;refine zB (zE zJ [] 700 rfl ?_);repeat (first | refine zG ?_ | refine zH ?_ | refine yC1 ?_)
  refine zC (zA (zB (zR ?_)));refine yC (ι := {k : Nat // k ≤ (ixI (zX h C).order N).toNat}) [0,2,4,6,7,9,10] [0,1,2,3,104] 750 (fun x => [(11,.sl false 1 ((zX h C).order.drop x.1) iD 0)]) (fun _ => []) (fun x => (ixI (zX h C).order N).toNat - x.1) ⟨0,Ap _⟩ ?_;refine ⟨⟨⟨Sub.slSl rfl,yG⟩,yD,rfl,rfl⟩,fun x => ?_⟩;have hkx : x.1 ≤ (ixI (zX h C).order N).toNat := x.2;refine zB ?_;refine zB (zU zJ [] [[],[0],[0,1],[],[3],[3,4],[3,4,5],[3,4,5,6],(rgN 8)] 800 yP (by kernel_rfl) rfl ?_);repeat (first | refine zG ?_ | refine zH ?_ | refine yB1 ?_)
  refine zC (zA (zS rfl (fun c7 => ?_) (fun c7 => ?_)))
  ·have c7w : ¬ (zX h C).order.getD x.1 0 = N := by
    have h9 : ¬ (zX h C).order.getD x.1 0 = ((zO h v).items.getD 0 vl0).r := by
     have h8 : ¬ ((zX h C).order.drop x.1).getD (Int.toNat 0) 0 = ((zO h v).items.getD 0 vl0).r := by simpa using c7
     rwa [xW0] at h8
    exact fun e9 => h9 (e9.trans hN)
   have hxl : x.1 < (ixI (zX h C).order N).toNat := by
    rcases Cc x.1 (ixI (zX h C).order N).toNat with h9 | h9
    ·exact h9
    ·exact absurd (by rw [show x.1 = (ixI (zX h C).order N).toNat by omega];exact tG0 hsh) c7w
   refine zN (zA (zR ?_));refine zE zJ [] 900 rfl ?_;repeat (first | refine zG ?_ | refine zH ?_ | refine gQ0 ?_)
   refine zC (zP ?_);exact zV ⟨x.1 + 1,by omega⟩ ⟨⟨Sub.slSl (by rw [← List.drop_drop];exact congrArg (List.map iD) (cU _ 1)),yG⟩,yD,rfl,rfl⟩ (by show (ixI (zX h C).order N).toNat - (x.1 + 1) < (ixI (zX h C).order N).toNat - x.1;omega)
  ·have c7w : (zX h C).order.getD x.1 0 = N := by
    have h9 : (zX h C).order.getD x.1 0 = ((zO h v).items.getD 0 vl0).r := by
     have h8 : ((zX h C).order.drop x.1).getD (Int.toNat 0) 0 = ((zO h v).items.getD 0 vl0).r := by simpa using c7
     rwa [xW0] at h8
    exact h9.trans hN.symm
   have hxe : x.1 = (ixI (zX h C).order N).toNat := xI0 (by omega) x.2 hrg.1 c7w;refine yF (yA (yB (zY (zA ?_))));refine zB (zU zJ [] mK13 1000 yP (by kernel_rfl) rfl ?_);repeat (first | refine zG ?_ | refine zH ?_ | refine gQ0 ?_)
   refine yN _ ((yU0 h (aftL (zX h C).order N) s hh (by rw [hN];exact hck)).args ⟨SubP.refl _,SubP.of_eq (by show D.sl false 1 _ iD 0 = .sl false 1 _ iD 0;congr 1;unfold aftL;rw [hxe,show (ixI (zX h C).order N + 1).toNat = (ixI (zX h C).order N).toNat + 1 by omega,← List.drop_drop];exact cU _ 1),SubP.refl _,trivial⟩) rfl rfl ?_;repeat (first | refine zG ?_ | refine zH ?_ | refine gQ0 ?_)
   refine zC (zA (zB ?_));refine yH [0,2,6,7,9,10,12] [0,1,3,104,811] 1010 [(14,.v (.bool S.isSome))] [(811,.box 29 (vlD A))] ?_;refine ⟨⟨⟨Sub.bool (by rw [hsa]),yG⟩,⟨⟨rfl,by rw [hA,hsa];exact SubL.same rfl⟩,yD⟩,rfl,rfl⟩,?_⟩;refine zL 1100 ?_;refine zS rfl (fun c10 => ?_) (fun c10 => ?_)
   ·have c10w : S.isSome = false := by simpa using c10
    refine zB (zE zJ [] 1200 rfl ?_);repeat (first | refine zG ?_ | refine zH ?_ | refine wK ?_)
    refine zT _ (wE _ _) rfl ?_;repeat (first | refine zG ?_ | refine zH ?_ | refine wK ?_)
    refine zC (zA (zK (zM ?_)));have hn : R = (raS 36 (suB ++ s ++ qB),h) := by
     rw [hR];unfold upS;rw [← hS];rw [Ab c10w]
    subst hn;exact jX
   ·have c10w : S.isSome = true := by simpa using c10
    refine zN (zA (zB ?_));refine zB (zU zJ [] mK1 1300 yP (by kernel_rfl) rfl ?_);refine zF ?_;refine yN _ (qJ h A) rfl rfl ?_;refine zF ?_;refine zC (zA ?_);refine yH [0,2,6,7,9,10,12,15] [0,1,3,104,811,1105] 1310 [] [(1105,.box 36 (obD (zO h A)))] ?_;refine ⟨⟨yG,⟨⟨rfl,SubL.same rfl⟩,yD⟩,rfl,rfl⟩,?_⟩;refine zL 1400 ?_;refine uR rfl ?_;refine zN (zA ?_);refine zB (zE zJ [1100] 1800 rfl ?_);refine zF ?_;refine yK _ _ (cD0 h A ((zO h v).items.getD 1 vl0) C false hh g har hai hwi hsin) rfl ?_;refine zF ?_;refine zC (zA (zK ?_));have hn : R = bdS h A ((zO h v).items.getD 1 vl0) C false := by
     rw [hR];unfold upS;rw [← hS];rw [← hA,← hC];rw [Aa (by rw [c10w];decide),Ab c4w]
    subst hn;exact jX
theorem yA1 {P : Program} {K : DS → Prop} {p : Prop} {r : Out} (hr : r.sat P K) (hp : p := by first | (simp only [Ao,Au];omega) | exact Dz) : (Out.need p r).sat P K := ⟨hp,hr⟩
set_option maxHeartbeats 2000000 in
theorem GetV_G (h : List Ob) (v : Vl) (s : ByteArray) (hh : HpIn h) (g : Uh h) (hv : qQ h v = true) (hiv : VlIn v) (hs : s.size ≤ 100) : FnG Tryz.prog 20 [.bp 0 0,.agg (vlD v),.v (.string s)] (hpO h) (.agg (stD (jQ h v s).1)) (hpO (jQ h v s).2) := by
 have hg5 := g.hi;obtain ⟨R,hR⟩ : ∃ R,R = jQ h v s := ⟨_,rfl⟩;rw [← hR];have hz := gY;have hcf := cf_of g hv;have hvo := vC hv;have hci := clA_in g hcf;have hnz := nm_sz g hci;have hnz2 : (h.getD (clA h v).toNat ob0).name.size ≤ 700 := hnz;have hoz := obj_sz g v;have hbi : VlIn (biV ((zX h (clA h v)).name ++ dotB ++ s)) := ⟨(by decide : (-9223372036854775808 : Int) ≤ 7),(by decide : (7 : Int) ≤ 9223372036854775807),(by decide : (-9223372036854775808 : Int) ≤ 0),(by decide : (0 : Int) ≤ 9223372036854775807),(fun _ h => by cases h),(fun _ h => by cases h),(by decide : 0 ≤ 2000000),(by decide : 0 ≤ 2000000),by show ((zX h (clA h v)).name ++ dotB ++ s).size ≤ 2000000;rw [Av,Av];omega⟩;have hcls : (zO h v).kind = 9 → inH h v.r ∧ zO h v = zX h v.r ∧ Cok h (zO h v).order ∧ ((fdV h s (fdO h (zO h v).order s)).k = 6 → yO h (fdV h s (fdO h (zO h v).order s)).r = true) ∧ VlIn (fdV h s (fdO h (zO h v).order s)) ∧ ∀ u ∈ (zO h v).order.map rfV,VlIn u := fun hk => by
  obtain ⟨h6,hob,eo⟩ := qD (h := h) (v := v) (by omega);have hin := yJ hob;have hck := cok_of hh g hin;rw [← eo] at hck;refine ⟨hin,eo,hck,fun hk9 => by rw [eo] at hk9 ⊢;exact jL0 hh g hin s hk9,(gc_fd g hh (L := (zO h v).order) (fun r hr => (hck.2 r hr).1) s).1.vin,fun u hu => ?_⟩;obtain ⟨r,hr,rfl⟩ := Bv.1 hu;exact (jF0 (hck.2 r hr).1 (by omega)).1.vin
 refine qS zJ Tryz.func20 rfl rfl rfl rfl rfl rfl rfl ?_;intro w0 s0 mx;refine zL 100 ?_;refine zB (zU zJ [] mK1 200 yP (by kernel_rfl) rfl ?_);refine zF ?_;refine yN _ (qJ h v) rfl rfl ?_;refine zF ?_;refine zC (zA (zB ?_));refine yH [0,2,4,6,7] [0,1,2,3,105] 210 [] [(105,.box 36 (obD (zO h v)))] ?_;refine ⟨⟨yG,⟨⟨rfl,SubL.same rfl⟩,yD⟩,rfl,rfl⟩,?_⟩;refine zL 300 ?_;refine zR (zL 400 ?_);refine zS rfl (fun c3 => ?_) (fun c3 => ?_)
 ·replace c3 : (zO h v).kind = 10 := by simpa using c3
  have c3v : (zO h v).kind = 10 := c3;obtain ⟨h6,hob,eo⟩ := qD (h := h) (v := v) (by omega);have hcin := inst_cls g c3v;have hfr := fun hk9 => jL0 hh g hcin s hk9;have hfi := (gc_fd g hh (L := (zX h (zO h v).cls).order) (fun r hr => ((cok_of hh g hcin).2 r hr).1) s).1.vin;refine zB (zU zJ [] mK14 500 yP (by kernel_rfl) rfl ?_);refine zF ?_;refine yN _ (vI h (zO h v).cls s hh hcin (cok_of hh g hcin)) rfl rfl ?_;refine zF ?_;refine zC (zA ?_);refine zB (zE zJ [1045] 600 rfl ?_);refine zF ?_;refine yK _ _ (Gotten_G h v (fdV h s (fdO h (zX h (zO h v).cls).order s)) s (fdO h (zX h (zO h v).cls).order s).isSome hh g c3 hv hfr hfi hiv hs) rfl ?_;refine zF ?_;refine zC (zA (zK (zQ (zM ?_))));have hn : R = wiS h v s (fdV h s (fdO h (zX h (zO h v).cls).order s)) (fdO h (zX h (zO h v).cls).order s).isSome := by
   rw [hR];unfold jQ;rw [Ab c3]
  subst hn;exact jX
 ·replace c3 : ¬ (zO h v).kind = 10 := by simpa using c3
  refine zL 700 ?_;refine zS rfl (fun c6 => ?_) (fun c6 => ?_)
  ·replace c6 : (zO h v).kind = 9 := by simpa using c6
   obtain ⟨hin,eo,hck,hfr,hfi,hrf⟩ := hcls c6;have hol := hck.1;have hfind := vI (md := true) h v.r s hh hin (cok_of hh g hin);rw [← eo] at hfind;refine zB (zL 800 ?_);refine zR (zL 900 ?_);refine zS rfl (fun c8 => ?_) (fun c8 => ?_)
   ·have c8w : s = gT := Af c8;refine zB (zE zJ [] 1000 rfl ?_);refine zF ?_;refine zT _ (T_ok _) rfl ?_;refine zF ?_;refine zT _ (jE _) rfl ?_;refine zF ?_;refine zC (zA (zK (zQ (zM (zQ (zM ?_))))));have hn : R = (vlS (txV (zO h v).name),h) := by
     rw [hR];unfold jQ;rw [Aa c3,Ab c6,clsS,Ab c8w]
    subst hn;exact jX
   ·have c8w : ¬ s = gT := of_decide_eq_false c8;refine zL 1100 ?_;refine zS rfl (fun c10 => ?_) (fun c10 => ?_)
    ·have c10w : s = ordB := Af c10;refine zL 1200 ?_;refine yW 10 29 7 rfl ?_;refine zB (zL 1300 ?_);refine zR ?_;refine yC (ι := {k : Nat // k ≤ (zO h v).order.length}) [0,6,58,59] [0,1,2,3] 1350 (fun x => [(60,.v (.int .i64 x.1)),(10,.own 1200 7 ((((zO h v).order.take x.1).map rfV).map vlD))]) (fun x => [(1200,.row 29 7 ((((zO h v).order.take x.1).map rfV).map vlD).length)]) (fun x => (zO h v).order.length - x.1) ⟨0,Ap _⟩ ?_;refine ⟨⟨⟨Sub.int rfl,Sub.own rfl,yG⟩,⟨⟨rfl,rfl,rfl⟩,yD⟩,rfl,rfl⟩,fun x => ?_⟩;have hk1 : x.1 ≤ (zO h v).order.length := x.2;refine zL 1400 ?_;refine zB (zS rfl (fun c13 => ?_) (fun c13 => ?_))
     ·have hlt : x.1 < (zO h v).order.length := by simpa using c13
      refine zN (zA (zB (zR (zL 1500 ?_))));refine zE zJ [] 1600 rfl ?_;repeat (first | refine zG ?_ | refine zH ?_ | refine yA1 ?_)
      refine zT _ (O_ok _) rfl ?_;repeat (first | refine zG ?_ | refine zH ?_ | refine yA1 ?_)
      refine zC (zP (zA (yT zJ [] 1700 ?_)));exact zV ⟨x.1 + 1,by omega⟩ ⟨⟨Sub.int (by push_cast;rfl),Sub.own (by rw [yZ hlt 0,Ad,Ad];rfl),yG⟩,⟨⟨rfl,rfl,by rw [yZ hlt 0];simp⟩,yD⟩,rfl,rfl⟩ (by show (zO h v).order.length - (x.1 + 1) < (zO h v).order.length - x.1;omega)
     ·have hke : x.1 = (zO h v).order.length := by
       have h9 : ¬ x.1 < (zO h v).order.length := by simpa using c13
       omega
      refine yF (yA (yB (zY (zA ?_))));refine zB (zE zJ [1073] 1800 rfl ?_);refine zF ?_;refine yK _ _ ((uB0 h (tuO ((zO h v).order.map rfV)) (by omega)).args ⟨Sub.refl _,Sub.ofP (SubP.agg ⟨SubP.refl _,SubP.refl _,SubP.refl _,SubP.nilSl rfl,SubP.nilSl rfl,SubP.nilSl rfl,SubP.slrSl (by rw [hke,List.take_length];rfl),SubP.nilSl rfl,SubP.refl _,SubP.refl _,trivial⟩) rfl rfl,trivial⟩) rfl ?_;refine zF ?_;refine zT _ (jE _) rfl ?_;refine zF ?_;refine zC (zA (zK (zQ (zM (zQ (zM ?_))))));have hn : R = newS h (tuO ((zO h v).order.map rfV)) := by
       rw [hR];unfold jQ;rw [Aa c3,Ab c6,clsS,Aa c8w,Ab c10w]
      subst hn;exact jX
    ·have c10w : ¬ s = ordB := of_decide_eq_false c10;refine zN (zP (zA (zB ?_)));refine zB (zU zJ [] mK14 1900 yP (by kernel_rfl) rfl ?_);refine zF ?_;refine yN _ (hfind) rfl rfl ?_;refine zF ?_;refine zC (zA (zL 2000 ?_));refine zS rfl (fun c19 => ?_) (fun c19 => ?_)
     ·have c19w : (fdO h (zO h v).order s).isSome = true := by simpa using c19
      refine zB (zE zJ [1091] 2100 rfl ?_);refine zF ?_;refine yK _ _ ((dI0 h (fdV h s (fdO h (zO h v).order s)) vl0 v.r hh g hfr hfi vV0 hin).args ⟨Sub.refl _,Sub.refl _,Sub.ofP (SubP.agg (by repeat (first | exact trivial | exact SubP.refl _ | exact SubP.nilSl rfl | refine ⟨?_,?_⟩))) rfl rfl,Sub.refl _,Sub.refl _,trivial⟩) rfl ?_;refine zF ?_;refine zC (zA (zK (zM (zQ (zM ?_)))));have hn : R = bdS h (fdV h s (fdO h (zO h v).order s)) vl0 v.r false := by
       rw [hR];unfold jQ;rw [Aa c3,Ab c6,clsS,Aa c8w,Aa c10w,Ab c19w]
      subst hn;exact jX
     ·have c19w : (fdO h (zO h v).order s).isSome = false := by simpa using c19
      refine zN (zA ?_);refine zB (zU zJ [] mK2 2200 yP (by kernel_rfl) rfl ?_);refine zF ?_;refine yN _ (dU h v s g hcf (by omega)) rfl rfl ?_;refine zF ?_;refine zC (zA (zK (zQ (zM ?_))));have hn : R = (lkS h v s,h) := by
       rw [hR];unfold jQ;rw [Aa c3,Ab c6,clsS,Aa c8w,Aa c10w,Aa (by rw [c19w];decide)]
      subst hn;exact jX
  ·replace c6 : ¬ (zO h v).kind = 9 := by simpa using c6
   refine zL 2300 ?_;refine zS rfl (fun c22 => ?_) (fun c22 => ?_)
   ·replace c22 : (zO h v).kind = 11 := by simpa using c22
    refine zB ?_;refine zB (zE zJ [] 2400 rfl ?_);refine zF ?_;refine zT _ (gM0 (zO h v) s (wL g v) (kD hh v).nl) rfl ?_;refine zF ?_;refine zC (zA (zL 2500 ?_));refine zS rfl (fun c24 => ?_) (fun c24 => ?_)
    ·have c24w : ownB (zO h v) s = true := by simpa using c24
     refine zB (zE zJ [] 2600 rfl ?_);refine zF ?_;refine zT _ (jE _) rfl ?_;refine zF ?_;refine zC (zA (zK (zM (zQ (zM ?_)))));have hn : R = (vlS (ownV (zO h v) s),h) := by
      rw [hR];unfold jQ;rw [Aa c3,Aa c6,Ab c22,Ab c24w]
     subst hn;exact jX
    ·have c24w : ownB (zO h v) s = false := by simpa using c24
     refine zN (zA ?_);refine zB (zU zJ [] mK2 2700 yP (by kernel_rfl) rfl ?_);refine zF ?_;refine yN _ (dU h v s g hcf (by omega)) rfl rfl ?_;refine zF ?_;refine zC (zA (zK (zQ (zM ?_))));have hn : R = (lkS h v s,h) := by
      rw [hR];unfold jQ;rw [Aa c3,Aa c6,Ab c22,Aa (by rw [c24w];decide)]
     subst hn;exact jX
   ·replace c22 : ¬ (zO h v).kind = 11 := by simpa using c22
    refine zL 2800 ?_;refine zS rfl (fun c27 => ?_) (fun c27 => ?_)
    ·replace c27 : (zO h v).kind = 15 := by simpa using c27
     refine zB (zE zJ [1120] 2900 rfl ?_);refine zF ?_;refine yK _ _ (upward_G h v s hh g c27 hs) rfl ?_;refine zF ?_;refine zC (zA (zK (zQ (zM ?_))));have hn : R = upS h (zO h v) s := by
      rw [hR];unfold jQ;rw [Aa c3,Aa c6,Aa c22,Ab c27]
     subst hn;exact jX
    ·replace c27 : ¬ (zO h v).kind = 15 := by simpa using c27
     refine zN (zP (zA (zB ?_)));refine zB (zU zJ [] [[],[0],[0,1],[],[0,1,2,3],(rgN 5),(rgN 6),(rgN 6),(rgN 7),(rgN 9)] 3000 yP (by kernel_rfl) rfl ?_);refine zF ?_;refine yN _ (named_ok h v g) rfl rfl ?_;refine zF ?_;refine zC (zA (zL 3100 ?_));refine zS rfl (fun c30 => ?_) (fun c30 => ?_)
     ·have c30w : (jR h v).2 = true ∧ s = gT := by
       have h9 : (jR h v).2 = true ∧ s = ⟨#[110,97,109,101]⟩ := by simpa using c30
       exact h9
      refine zB (zE zJ [] 3200 rfl ?_);refine zF ?_;refine zT _ (T_ok _) rfl ?_;refine zF ?_;refine zT _ (jE _) rfl ?_;refine zF ?_;refine zC (zA (zK (zM ?_)));have hn : R = (vlS (txV (jR h v).1),h) := by
       rw [hR];unfold jQ;rw [Aa c3,Aa c6,Aa c22,Aa c27,biS,Ab ⟨c30w.2,c30w.1⟩]
      subst hn;exact jX
     ·have c30w : ¬ ((jR h v).2 = true ∧ s = gT) := by
       have h9 : ¬ ((jR h v).2 = true ∧ s = ⟨#[110,97,109,101]⟩) := by simpa using c30
       exact h9
      refine zN (zA ?_);refine zB (zU zJ [] mK5 3300 yP (by kernel_rfl) rfl ?_);refine zF ?_;refine yN _ (zC0 h v hcf) rfl rfl ?_;refine zF ?_;refine zC (zA (zB ?_));refine zB (zE zJ [] 3400 rfl ?_);refine zF ?_;refine zT _ (MethodsOf_ok _) rfl ?_;refine zF ?_;refine zT _ (uM (mtL (clA h v)) s) rfl ?_;refine zF ?_;refine zC (zA (zS rfl (fun c33 => ?_) (fun c33 => ?_)))
      ·have c33w : jF (mtL (clA h v)) s = true := by simpa using c33
       refine zB (zE zJ [] 3500 rfl ?_);repeat (first | refine zG ?_ | refine zH ?_ | refine zW (by first | exact ⟨hci.1,hci.2⟩ | exact ⟨rfl,hci.2⟩ | exact ⟨by simp [MR.len],by simpa [MR.len] using hci.2⟩ | rfl | (simp only [MR.len];done) | (simp only [Av,kbs,Bi,Ak,Aq];omega) | exact Dz) ?_)
       refine zC (zA ?_);refine yH [0,4,6,20] [0,1,2,3,3412] 3510 [] [(3412,.box 29 (vlD (biV ((zX h (clA h v)).name ++ dotB ++ s))))] ?_;refine ⟨⟨yG,⟨⟨rfl,by repeat (first | exact trivial | exact Sub.refl _ | exact Sub.nilSl | exact rfl | refine ⟨?_,?_⟩)⟩,yD⟩,rfl,rfl⟩,?_⟩;refine zB (zE zJ [1163] 3600 rfl ?_);refine zF ?_;refine yK _ _ ((uB0 h (mtO (biV ((zX h (clA h v)).name ++ dotB ++ s)) v) (by omega)).args ⟨Sub.refl _,Sub.ofP (SubP.agg ⟨SubP.refl _,SubP.refl _,SubP.refl _,SubP.nilSl rfl,SubP.nilSl rfl,SubP.nilSl rfl,SubP.slrSl rfl,SubP.nilSl rfl,SubP.refl _,SubP.refl _,trivial⟩) rfl rfl,trivial⟩) rfl ?_;refine zF ?_;refine zT _ (jE _) rfl ?_;refine zF ?_;refine zC (zA (zK (zM ?_)));have hn : R = newS h (mtO (biV ((zX h (clA h v)).name ++ dotB ++ s)) v) := by
        rw [hR];unfold jQ;rw [Aa c3,Aa c6,Aa c22,Aa c27,biS,Aa (fun hh9 => c30w ⟨hh9.2,hh9.1⟩),Ab c33w]
       subst hn;exact jX
      ·have c33w : jF (mtL (clA h v)) s = false := by simpa using c33
       refine zN (zA ?_);refine zB (zU zJ [] mK2 3700 yP (by kernel_rfl) rfl ?_);refine zF ?_;refine yN _ (dU h v s g hcf (by omega)) rfl rfl ?_;refine zF ?_;refine zC (zA (zK ?_));have hn : R = (lkS h v s,h) := by
        rw [hR];unfold jQ;rw [Aa c3,Aa c6,Aa c22,Aa c27,biS,Aa (fun hh9 => c30w ⟨hh9.2,hh9.1⟩),Aa (by rw [c33w];decide)]
       subst hn;exact jX
end Gq
end Go.Proofs.YtifgelimmddkpaaGreatDoor
