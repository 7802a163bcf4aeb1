/- Part 23 of the proof. -/
import Derived.Test.YtifgelimmddkpaaGreatDoorM22
namespace Go.Proofs.YtifgelimmddkpaaGreatDoor
namespace Gq
open Go.RowKit
variable {md me : Bool}
theorem bS (h : List Ob) (v : Vl) (g : Uh h) (c : Cf h v) : Fn Tryz.prog 44 [hpD md h,.agg (vlD v)] (.v (.string (zX h (clA h v)).name)) := by
 refine yL zJ Tryz.func44 rfl rfl rfl rfl rfl rfl ?_;intro w0 s0 mx;refine zL 100 ?_;refine zB (zU zJ [] mK17 200 yP (by kernel_rfl) rfl ?_);repeat (first | refine zG ?_ | refine zH ?_ | refine zW (by exact clA_in g c) ?_)
 refine zT _ (wI h v c) rfl ?_;repeat (first | refine zG ?_ | refine zH ?_ | refine zW (by exact clA_in g c) ?_)
 refine zC (zA (zK ?_));exact FinV.ret rfl (SubP.refl _)
set_option maxHeartbeats 1000000 in
theorem cY (h : List Ob) (v : Vl) (s : ByteArray) (hh : HpIn h) (g : Uh h) (hv : v.k = 6 → yO h v.r = true) : Fn Tryz.prog 101 [hpD md h,.agg (vlD v),.v (.string s)] (.tup [.agg (vlD (spS h v s).1),vsD (spS h v s).2.1,.v (.bool (spS h v s).2.2)]) := by
 refine yL zJ Tryz.func101 rfl rfl rfl rfl rfl rfl ?_;intro w0 s0 mx;refine zL 100 ?_;refine zB ?_;refine zB (zE zJ [] 200 rfl ?_);refine zF ?_;refine zT _ (yY _ _ (by first | assumption | omega | (simp_all;done))) rfl ?_;refine zF ?_;refine zC (zA (zS rfl (fun c1 => ?_) (fun c1 => ?_)))
 ·replace c1 : ¬ (zO h v).kind = 10 := by simpa using c1
  refine zL 300 ?_;refine zK (zM ?_);exact FinV.ret rfl (SubP.tup ⟨by rw [spS,Ab c1];exact (by repeat (first | exact trivial | exact SubP.refl _ | exact SubP.nilSl rfl | refine SubP.agg ?_ | refine ⟨?_,?_⟩)),by rw [spS,Ab c1];exact SubP.nilSl rfl,by rw [spS,Ab c1];exact SubP.refl _,trivial⟩)
 ·replace c1 : (zO h v).kind = 10 := by simpa using c1
  have hob := qD (h := h) (v := v) (by omega);have hin := inst_cls g c1;have hrv := fun hk => jL0 hh g hin s hk;refine zN (zA ?_);refine zB (zE zJ [] 400 rfl ?_);repeat (first | refine zG ?_ | refine zH ?_ | refine zW (by exact yJ hob.2.1) ?_)
  refine zC (zA ?_);refine yH [2,3,4,6] [0,1,2] 410 [(9,.v (.int .i64 (zO h v).cls))] [] ?_;refine ⟨⟨⟨Sub.int (by rw [hob.2.2]),by repeat (first | exact trivial | exact Sub.refl _ | refine ⟨?_,?_⟩)⟩,yD,rfl,rfl⟩,?_⟩;refine zB (zE zJ [] 500 rfl ?_);refine zF ?_;refine zT _ (vS h (zO h v).cls s hh hin (cok_of hh g hin)) rfl ?_;refine zF ?_;refine zC (zA (zB (zL 600 ?_)));refine zS rfl (fun c5 => ?_) (fun c5 => ?_)
  ·replace c5 : (fdO h (zX h (zO h v).cls).order s).isSome = false := by simpa using c5
   refine zL 700 ?_;refine zK (zM ?_);exact FinV.ret rfl (SubP.tup ⟨by rw [spS,Aa (not_not_intro c1),Ab c5];exact (by repeat (first | exact trivial | exact SubP.refl _ | exact SubP.nilSl rfl | refine SubP.agg ?_ | refine ⟨?_,?_⟩)),by rw [spS,Aa (not_not_intro c1),Ab c5];exact SubP.nilSl rfl,by rw [spS,Aa (not_not_intro c1),Ab c5];exact SubP.refl _,trivial⟩)
  ·replace c5 : (fdO h (zX h (zO h v).cls).order s).isSome = true := by simpa using c5
   refine zN (zA (zB ?_));refine zB (zE zJ [] 800 rfl ?_);refine zF ?_;refine zT _ (yY h (fdV h s (fdO h (zX h (zO h v).cls).order s)) hrv) rfl ?_;refine zF ?_;refine zC (zA (zR ?_));refine zB (zE zJ [] 900 rfl ?_);refine zF ?_;refine zT _ (gB h (fdV h s (fdO h (zX h (zO h v).cls).order s)) hrv) rfl ?_;refine zF ?_;refine zC (zA (zS rfl (fun c8 => ?_) (fun c8 => ?_)))
   ·
    refine zB (zU zJ [] [[],[],[1],[0],[0,1,2,3],(rgN 5)] 1000 yP (by kernel_rfl) rfl ?_);refine zF ?_;refine zC (zA (zK (zQ (zM ?_))));exact FinV.ret rfl (SubP.tup ⟨by rw [spS,Aa (not_not_intro c1),Aa (by rw [c5];decide),Ab c8];exact SubP.refl _,by rw [spS,Aa (not_not_intro c1),Aa (by rw [c5];decide),Ab c8];exact SubP.slrSl rfl,by rw [spS,Aa (not_not_intro c1),Aa (by rw [c5];decide),Ab c8];exact SubP.refl _,trivial⟩)
   ·
    refine zL 1100 ?_;refine zZ (fun c10 => ?_) (fun c10 => ?_)
    ·
     refine zB (zE zJ [] 1200 rfl ?_);repeat (first | refine zG ?_ | refine zH ?_ | refine zW (by exact ⟨by omega,qW g (Or.inl c10)⟩) ?_)
     refine zC (zA (zK (zQ (zM ?_))));exact FinV.ret rfl (SubP.tup ⟨by rw [spS,Aa (not_not_intro c1),Aa (by rw [c5];decide),Aa (by rw [c8];decide),Ab c10];exact SubP.refl _,by rw [spS,Aa (not_not_intro c1),Aa (by rw [c5];decide),Aa (by rw [c8];decide),Ab c10];exact SubP.nilSl rfl,by rw [spS,Aa (not_not_intro c1),Aa (by rw [c5];decide),Aa (by rw [c8];decide),Ab c10];exact SubP.refl _,trivial⟩)
    ·
     refine zL 1300 ?_;refine zZ (fun c12 => ?_) (fun c12 => ?_)
     ·
      refine zB (zU zJ [] [[],[0],[0,1],[0,1,2],[],[4],[4,5],(rgN 6),(rgN 8),(rgN 9)] 1400 yP (by kernel_rfl) rfl ?_);repeat (first | refine zG ?_ | refine zH ?_ | refine zW (by exact ⟨by omega,qW g (Or.inr c12)⟩) ?_)
      refine zT _ (jW _) rfl ?_;repeat (first | refine zG ?_ | refine zH ?_ | refine zW (by exact ⟨by omega,qW g (Or.inr c12)⟩) ?_)
      refine zC (zA (zK (zQ (zM ?_))));exact FinV.ret rfl (SubP.tup ⟨by rw [spS,Aa (not_not_intro c1),Aa (by rw [c5];decide),Aa (by rw [c8];decide),Aa (by omega),Ab c12];exact SubP.refl _,by rw [spS,Aa (not_not_intro c1),Aa (by rw [c5];decide),Aa (by rw [c8];decide),Aa (by omega),Ab c12];exact SubP.slrSl rfl,by rw [spS,Aa (not_not_intro c1),Aa (by rw [c5];decide),Aa (by rw [c8];decide),Aa (by omega),Ab c12];exact SubP.refl _,trivial⟩)
     ·
      refine zN (zP (zA (zL 1500 ?_)));refine zK ?_;exact FinV.ret rfl (SubP.tup ⟨by rw [spS,Aa (not_not_intro c1),Aa (by rw [c5];decide),Aa (by rw [c8];decide),Aa (by omega),Aa (by omega)];exact SubP.refl _,by rw [spS,Aa (not_not_intro c1),Aa (by rw [c5];decide),Aa (by rw [c8];decide),Aa (by omega),Aa (by omega)];exact SubP.nilSl rfl,by rw [spS,Aa (not_not_intro c1),Aa (by rw [c5];decide),Aa (by rw [c8];decide),Aa (by omega),Aa (by omega)];exact SubP.refl _,trivial⟩)
theorem wC (h : List Ob) (v : Vl) (s : ByteArray) (l : List Vl) (hh : HpIn h) (g : Uh h) (hv : v.k = 6 → yO h v.r = true) (hl : l.length ≤ 1000000) : Fn Tryz.prog 47 [hpD md h,.agg (vlD v),.v (.string s),vsD l] (.tup [.agg (stD (caS (spS h v s).1 ((spS h v s).2.1 ++ l))),.v (.bool (spS h v s).2.2)]) := by
 refine yL zJ Tryz.func47 rfl rfl rfl rfl rfl rfl ?_;intro w0 s0 mx;refine zL 100 ?_;refine zB (zE zJ [] 200 rfl ?_);refine zF ?_;refine zT _ (cY _ _ _ (by first | assumption | omega | (simp_all;done)) (by first | assumption | omega | (simp_all;done)) (by first | assumption | omega | (simp_all;done))) rfl ?_;refine zF ?_;refine zC (zA ?_);refine zB (zU zJ [25] mK18 300 yP (by kernel_rfl) rfl ?_);refine zF ?_;refine qK _ _ _ ((zB0 [(spS h v s).2.1,l] (by have := zV1 h v s;rw [cA0,Ae];omega) (by show 2 ≤ 1000;omega)).args ⟨SubP.slrSl rfl,trivial⟩) ?_;refine zF ?_;refine zT _ ((tE _ ((spS h v s).2.1 ++ l)).args ⟨SubP.refl _,SubP.ownSl (by simp [ctL]),trivial⟩) rfl ?_;refine zF ?_;refine zC (zA (zK ?_));exact FinV.ret rfl (SubP.refl _)
theorem hasC_ok (h : List Ob) (v : Vl) (s : ByteArray) (hh : HpIn h) (g : Uh h) (hv : v.k = 6 → yO h v.r = true) : Fn Tryz.prog 137 [.v (.string s),cpD md h,vqD v] (.v (.bool (!(spS h v s).2.2))) := by
 refine yL zJ Tryz.func137 rfl rfl rfl rfl rfl rfl ?_;intro w0 s0 mx;refine zL 100 ?_;refine zB (zE zJ [] 200 rfl ?_);refine zF ?_;refine zT _ (cY h v s hh g hv) rfl ?_;refine zF ?_;refine zC (zA (zL 300 ?_));refine zK ?_;exact FinV.ret rfl (SubP.refl _)
theorem pH0 (h : List Ob) (v : Vl) (l : List ByteArray) (hh : HpIn h) (g : Uh h) (hv : v.k = 6 → yO h v.r = true) : Fn Tryz.prog 105 [hpD md h,.agg (vlD v),.sl me 1 l sD ByteArray.empty] (.v (.bool (l.all fun s => (spS h v s).2.2))) := by
 refine yL zJ Tryz.func105 rfl rfl rfl rfl rfl rfl ?_;intro w0 s0 mx;refine zL 100 ?_;refine zB (zE zJ [] 200 rfl ?_);refine zF ?_;refine yN _ (ContainsFuncS_ok h v l (fun s => !(spS h v s).2.2) 137 fun x _ => hasC_ok h v x hh g hv) rfl rfl ?_;refine zF ?_;refine zC (zA (zK ?_));exact FinV.ret rfl (SubP.bool (any_all _ _))
theorem dE {P : Program} {K : DS → Prop} {p : Prop} {r : Out} (hr : r.sat P K) (hp : p := by first | (simp only [Av,kbs,Bi,Ak,Aq];omega) | exact Dz) : (Out.need p r).sat P K := ⟨hp,hr⟩
theorem pT (h : List Ob) (v : Vl) (s : ByteArray) (g : Uh h) (c : Cf h v) (hs : s.size ≤ 2000000) (h9 : ¬ (zO h v).kind = 9) (h11 : ¬ (zO h v).kind = 11) : Fn Tryz.prog 54 [hpD md h,.agg (vlD v),.v (.string s)] (.agg (stD (lkS h v s))) := by
 have hz := gY;have hnz := nm_sz g (clA_in g c);refine yL zJ Tryz.func54 rfl rfl rfl rfl rfl rfl ?_;intro w0 s0 mx;refine zB (zE zJ [] 100 rfl ?_);repeat (first | refine zG ?_ | refine zH ?_ | refine dE ?_)
 refine zC (zA ?_);refine zB (zE zJ [] 200 rfl ?_);repeat (first | refine zG ?_ | refine zH ?_ | refine dE ?_)
 refine zT _ (bS h v g c) rfl ?_;repeat (first | refine zG ?_ | refine zH ?_ | refine dE ?_)
 refine zT _ (jD _) rfl ?_;repeat (first | refine zG ?_ | refine zH ?_ | refine dE ?_)
 refine zC (zA (zK ?_));rw [show lkS h v s = raS 36 (qB ++ (zX h (clA h v)).name ++ nhB ++ s ++ qB) by unfold lkS whoS;rw [Aa h9,Aa h11]];exact FinV.ret rfl (SubP.refl _)
theorem yG1 {P : Program} {K : DS → Prop} {p : Prop} {r : Out} (hr : r.sat P K) (hp : p := by first | exact ⟨by decide,qW g (.inl c4)⟩ | exact ⟨rfl,qW g (.inl c4)⟩ | exact Dz) : (Out.need p r).sat P K := ⟨hp,hr⟩
theorem cR0 {P : Program} {K : DS → Prop} {p : Prop} {r : Out} (hr : r.sat P K) (hp : p := by first | exact ⟨by decide,qW g (.inr c6)⟩ | exact ⟨rfl,qW g (.inr c6)⟩ | exact Dz) : (Out.need p r).sat P K := ⟨hp,hr⟩
theorem qI {T : List (Nat × TI)} {rs : List ResultVar} {n0 : Nat} {out d : D} {own' : List DOwn} {S : DS} (hk : Nat.ble n0 2 = true := by rfl) (h : finH T S rs = some d := by rfl) (hs : Sub d (out.ren (qH (iota n0) 2)) := by exact Sub.ofP (SubP.agg (SubPs.refl _)) rfl rfl) (ho : mA (iota n0) 2 S.ow 0 own' := by exact ⟨⟨rfl,Sub.mo rfl,rfl,trivial⟩,SubO.mp rfl,trivial⟩) : FinH T rs n0 out own' .ret S := FinH.ret 2 hk h hs ho
theorem vP0 (h : List Ob) (a v : Vl) (c : Int) (hh : HpIn h) (g : Uh h) (ha : a.k = 6 → yO h a.r = true) (hia : VlIn a) (hiv : VlIn v) (hc : inH h c) : FnG Tryz.prog 97 [.bp 0 0,.agg (vlD a),.agg (vlD v),.v (.int .i64 c)] (hpO h) (.agg (stD (bdS h a v c true).1)) (hpO (bdS h a v c true).2) := by
 have hg5 := g.hi;obtain ⟨R,hR⟩ : ∃ R,R = bdS h a v c true := ⟨_,rfl⟩;rw [← hR];refine qS zJ Tryz.func97 rfl rfl rfl rfl rfl rfl rfl ?_;intro w0 s0 mx;refine zL 100 ?_;refine zB ?_;refine zB (zU zJ [] mK1 200 yP (by kernel_rfl) rfl ?_);refine zF ?_;refine yN _ (yY h a ha) rfl rfl ?_;refine zF ?_;refine zC (zA (zR ?_));refine yH [0,3,5,6,8,9] [0,1,2,3,4,105] 210 [] [(105,.box 36 (obD (zO h a)))] ?_;refine ⟨⟨yG,⟨⟨rfl,SubL.same rfl⟩,yD⟩,rfl,rfl⟩,?_⟩;refine zB (zU zJ [] mK5 300 yP (by kernel_rfl) rfl ?_);refine zF ?_;refine yN _ (gB h a ha) rfl rfl ?_;refine zF ?_;refine zC (zA (zS rfl (fun c2 => ?_) (fun c2 => ?_)))
 ·have c2 : uT h a = true := by simpa using c2
  refine zB (zE zJ [1026] 400 rfl ?_);refine zF ?_;refine yK _ _ (wU h a v (by omega) hia hiv) rfl ?_;refine zF ?_;refine zC (zA (zK (zQ (zM ?_))));have hn : R = newS h (mtO a v) := by
   rw [hR];unfold bdS;rw [Ab (by rw [c2];rfl)]
  subst hn;exact qI
 ·have c2 : uT h a = false := by simpa using c2
  refine zL 500 ?_;refine zZ (fun c4 => ?_) (fun c4 => ?_)
  ·
   refine zB (zE zJ [] 600 rfl ?_);repeat (first | refine zG ?_ | refine zH ?_ | refine yG1 ?_)
   refine zT _ (qO _) rfl ?_;repeat (first | refine zG ?_ | refine zH ?_ | refine yG1 ?_)
   refine zC (zA (zK (zQ (zM ?_))));have hn : R = (vlS ((zO h a).items.getD 0 vl0),h) := by
    rw [hR];unfold bdS;rw [Aa (by rw [c2];decide),Ab c4]
   subst hn;exact qI
  ·
   refine zL 700 ?_;refine zZ (fun c6 => ?_) (fun c6 => ?_)
   ·
    refine zB (zU zJ [1047] [[],[],[1],[1,2],[1,2,3],[],[5],(rgN 7),(rgN 8)] 800 yP (by kernel_rfl) rfl ?_);repeat (first | refine zG ?_ | refine zH ?_ | refine cR0 ?_)
    refine zT _ (jW _) rfl ?_;repeat (first | refine zG ?_ | refine zH ?_ | refine cR0 ?_)
    refine yK _ _ (wU h ((zO h a).items.getD 0 vl0) (rfV c) (by omega) (vD (gc_obj g hh a) 0).1.vin (jF0 hc (by omega)).1.vin) rfl ?_;repeat (first | refine zG ?_ | refine zH ?_ | refine cR0 ?_)
    refine zC (zA (zK (zQ (zM ?_))));have hn : R = newS h (mtO ((zO h a).items.getD 0 vl0) (rfV c)) := by
     rw [hR];unfold bdS;rw [Aa (by rw [c2];decide),Aa c4,Ab c6]
    subst hn;exact qI
   ·
    refine zB (zU zJ [] mK2 900 yP (by kernel_rfl) rfl ?_);refine zF ?_;refine yN _ ((pH0 h a [onR] hh g ha).args ⟨SubP.refl _,SubP.refl _,SubP.slrSl (m := false) rfl,trivial⟩) rfl rfl ?_;refine zF ?_;refine zC (zA (zS rfl (fun c8 => ?_) (fun c8 => ?_)))
    ·have c8w : (spS h a onR).2.2 = true := by simpa using c8
     refine zB (zU zJ [] mK6 1000 yP (by kernel_rfl) rfl ?_);refine zF ?_;refine zT _ (jW _) rfl ?_;refine zF ?_;refine yN _ ((wC h a onR [v,rfV c] hh g ha (by show 2 ≤ 1000000;decide)).args ⟨SubP.refl _,SubP.refl _,SubP.refl _,SubP.slrSl (m := false) rfl,trivial⟩) rfl rfl ?_;refine zF ?_;refine zC (zA (zL 1100 ?_));refine zK (zQ (zM ?_));have hn : R = (caS (spS h a onR).1 ((spS h a onR).2.1 ++ [v,rfV c]),h) := by
      rw [hR];unfold bdS;rw [Aa (by rw [c2];decide),Aa c4,Aa c6,Ab c8w];rfl
     subst hn;exact qI
    ·have c8w : (spS h a onR).2.2 = false := by simpa using c8
     refine zN (zP (zA ?_));refine zB (zE zJ [] 1200 rfl ?_);refine zF ?_;refine zT _ (qO _) rfl ?_;refine zF ?_;refine zC (zA (zK ?_));have hn : R = (vlS a,h) := by
      rw [hR];unfold bdS;rw [Aa (by rw [c2];decide),Aa c4,Aa c6,Aa (by rw [c8w];decide)]
     subst hn;exact qI
theorem yF1 {P : Program} {K : DS → Prop} {p : Prop} {r : Out} (hr : r.sat P K) (hp : p := by first | exact ⟨by decide,qW g (.inl c2)⟩ | exact ⟨rfl,qW g (.inl c2)⟩ | exact Dz) : (Out.need p r).sat P K := ⟨hp,hr⟩
theorem cQ0 {P : Program} {K : DS → Prop} {p : Prop} {r : Out} (hr : r.sat P K) (hp : p := by first | exact ⟨by decide,qW g (.inr c4)⟩ | exact ⟨rfl,qW g (.inr c4)⟩ | exact Dz) : (Out.need p r).sat P K := ⟨hp,hr⟩
theorem qL0 (h : List Ob) (a : Vl) (c : Int) (hh : HpIn h) (g : Uh h) (ha : a.k = 6 → yO h a.r = true) (hia : VlIn a) (hc : inH h c) : FnG Tryz.prog 93 [.bp 0 0,.agg (vlD a),.v (.int .i64 c)] (hpO h) (.agg (stD (bdS h a vl0 c false).1)) (hpO (bdS h a vl0 c false).2) := by
 have hg5 := g.hi;obtain ⟨R,hR⟩ : ∃ R,R = bdS h a vl0 c false := ⟨_,rfl⟩;rw [← hR];refine qS zJ Tryz.func93 rfl rfl rfl rfl rfl rfl rfl ?_;intro w0 s0 mx;refine zL 100 ?_;refine zB ?_;refine zB (zU zJ [] mK1 200 yP (by kernel_rfl) rfl ?_);refine zF ?_;refine yN _ (yY h a ha) rfl rfl ?_;refine zF ?_;refine zC (zA (zR ?_));refine yH [0,2,4,6,7] [0,1,2,3,105] 210 [] [(105,.box 36 (obD (zO h a)))] ?_;refine ⟨⟨yG,⟨⟨rfl,SubL.same rfl⟩,yD⟩,rfl,rfl⟩,?_⟩;refine zL 300 ?_;refine zZ (fun c2 => ?_) (fun c2 => ?_)
 ·
  refine zB (zE zJ [] 400 rfl ?_);repeat (first | refine zG ?_ | refine zH ?_ | refine yF1 ?_)
  refine zT _ (qO _) rfl ?_;repeat (first | refine zG ?_ | refine zH ?_ | refine yF1 ?_)
  refine zC (zA (zK (zQ (zM ?_))));have hn : R = (vlS ((zO h a).items.getD 0 vl0),h) := by
   rw [hR];unfold bdS;rw [Aa (by simp),Ab c2]
  subst hn;exact qI
 ·
  refine zL 500 ?_;refine zZ (fun c4 => ?_) (fun c4 => ?_)
  ·
   refine zB (zU zJ [1035] [[],[],[1],[1,2],[1,2,3],[],[5],(rgN 7),(rgN 8)] 600 yP (by kernel_rfl) rfl ?_);repeat (first | refine zG ?_ | refine zH ?_ | refine cQ0 ?_)
   refine zT _ (jW _) rfl ?_;repeat (first | refine zG ?_ | refine zH ?_ | refine cQ0 ?_)
   refine yK _ _ (wU h ((zO h a).items.getD 0 vl0) (rfV c) (by omega) (vD (gc_obj g hh a) 0).1.vin (jF0 hc (by omega)).1.vin) rfl ?_;repeat (first | refine zG ?_ | refine zH ?_ | refine cQ0 ?_)
   refine zC (zA (zK (zQ (zM ?_))));have hn : R = newS h (mtO ((zO h a).items.getD 0 vl0) (rfV c)) := by
    rw [hR];unfold bdS;rw [Aa (by simp),Aa c2,Ab c4]
   subst hn;exact qI
  ·
   refine zB (zU zJ [] mK2 700 yP (by kernel_rfl) rfl ?_);refine zF ?_;refine yN _ ((pH0 h a [onR] hh g ha).args ⟨SubP.refl _,SubP.refl _,SubP.slrSl (m := false) rfl,trivial⟩) rfl rfl ?_;refine zF ?_;refine zC (zA (zS rfl (fun c6 => ?_) (fun c6 => ?_)))
   ·have c6w : (spS h a onR).2.2 = true := by simpa using c6
    refine zB (zU zJ [] mK6 800 yP (by kernel_rfl) rfl ?_);refine zF ?_;refine zT _ (jW _) rfl ?_;refine zF ?_;refine yN _ ((wC h a onR [vl0,rfV c] hh g ha (by show 2 ≤ 1000000;decide)).args ⟨SubP.refl _,SubP.refl _,SubP.refl _,SubP.slrRows (by repeat (first | exact trivial | exact SubPs.refl _ | exact SubP.refl _ | exact SubP.nilSl rfl | refine ⟨?_,?_⟩)),trivial⟩) rfl rfl ?_;refine zF ?_;refine zC (zA (zL 900 ?_));refine zK (zQ (zM ?_));have hn : R = (caS (spS h a onR).1 ((spS h a onR).2.1 ++ [vl0,rfV c]),h) := by
     rw [hR];unfold bdS;rw [Aa (by simp),Aa c2,Aa c4,Ab c6w];rfl
    subst hn;exact qI
   ·have c6w : (spS h a onR).2.2 = false := by simpa using c6
    refine zN (zP (zA ?_));refine zB (zE zJ [] 1000 rfl ?_);refine zF ?_;refine zT _ (qO _) rfl ?_;refine zF ?_;refine zC (zA (zK ?_));have hn : R = (vlS a,h) := by
     rw [hR];unfold bdS;rw [Aa (by simp),Aa c2,Aa c4,Aa (by rw [c6w];decide)]
    subst hn;exact qI
theorem mA0 {P : Program} {K : DS → Prop} {p : Prop} {r : Out} (hr : r.sat P K) (hp : p := by first | exact ⟨hin.1,hin.2⟩ | exact ⟨rfl,hin.2⟩ | exact ⟨by simp [MR.len],by simpa [MR.len] using hin.2⟩ | rfl | (simp only [MR.len];done) | exact Dz) : (Out.need p r).sat P K := ⟨hp,hr⟩
theorem WithT_G (h : List Ob) (v a : Vl) (s : ByteArray) (hh : HpIn h) (g : Uh h) (hk : (zO h v).kind = 10) (hv : qQ h v = true) (ha : a.k = 6 → yO h a.r = true) (hia : VlIn a) (hiv : VlIn v) (hs : s.size ≤ 100) : FnG Tryz.prog 60 [.bp 0 0,.agg (vlD v),.v (.string s),.agg (vlD a),.v (.bool true)] (hpO h) (.agg (stD (wiS h v s a true).1)) (hpO (wiS h v s a true).2) := by
 have hg5 := g.hi;obtain ⟨R,hR⟩ : ∃ R,R = wiS h v s a true := ⟨_,rfl⟩;rw [← hR];obtain ⟨h6,hob,eo⟩ := qD (h := h) (v := v) (by omega);have hin := yJ hob;have hcin := inst_cls g hk;have hvr : v.k = 6 → yO h v.r = true := fun _ => hob;refine qS zJ Tryz.func60 rfl rfl rfl rfl rfl rfl rfl ?_;intro w0 s0 mx;refine zL 100 ?_;refine zB (zU zJ [] mK19 200 yP (by kernel_rfl) rfl ?_);repeat (first | refine zG ?_ | refine zH ?_ | refine mA0 ?_)
 refine zC (zA (zB ?_));refine yH [0,2,4,6,8,10,11] [0,1,2,3,4,108] 210 [] [(108,.box 36 (obD (zO h v)))] ?_;refine ⟨⟨yG,⟨⟨rfl,by rw [eo];exact SubL.same rfl⟩,yD⟩,rfl,rfl⟩,?_⟩;refine zB (zU zJ [] mK1 300 yP (by kernel_rfl) rfl ?_);refine zF ?_;refine yN _ (yY h a ha) rfl rfl ?_;refine zF ?_;refine zC (zA ?_);refine yH [0,2,4,6,8,10,11,12] [0,1,2,3,4,108,215] 310 [] [(215,.box 36 (obD (zO h a)))] ?_;refine ⟨⟨yG,⟨⟨rfl,SubL.same rfl⟩,yD⟩,rfl,rfl⟩,?_⟩;refine zL 400 ?_;refine zS rfl (fun c3 => ?_) (fun c3 => ?_)
 ·have c3w : (zO h a).kind = 12 := by simpa using c3
  refine zB (zE zJ [] 500 rfl ?_);refine zF ?_;refine zT _ (jC0 (zO h a) v s (by rw [prop_item g c3w];decide) (by omega)) rfl ?_;refine zF ?_;refine zC (zA (zK (zM ?_)));have hn : R = (gtS (zO h a) v s,h) := by
   rw [hR];unfold wiS;rw [Ab ⟨rfl,c3w⟩]
  subst hn;exact qI
 ·have c3w : ¬ (zO h a).kind = 12 := by simpa using c3
  refine zN (zA (zB ?_));refine zB (zU zJ [] mK20 600 yP (by kernel_rfl) rfl ?_);repeat (first | refine zG ?_ | refine zH ?_ | refine jA ?_ | refine vY ?_ | refine vZ ?_)
  refine dH _ (fun hg7 => (pH0 h a [onR,onW] hh g ha).args ⟨SubP.refl _,SubP.refl _,SubP.slrSl (m := false) rfl,trivial⟩) rfl rfl ?_;repeat (first | refine zG ?_ | refine zH ?_ | refine jA ?_ | refine vY ?_ | refine vZ ?_)
  refine zC (zA (zS rfl (fun c5 => ?_) (fun c5 => ?_)))
  ·have c5w : (spS h a onR).2.2 = true ∧ (spS h a onW).2.2 = true := by simpa using c5
   refine zB (zE zJ [1054] 700 rfl ?_);refine zF ?_;refine yK _ _ (vP0 h a v (zO h v).cls hh g ha hia hiv hcin) rfl ?_;refine zF ?_;refine zC (zA (zK (zM ?_)));have hn : R = bdS h a v (zO h v).cls true := by
    rw [hR];unfold wiS;rw [Aa (fun hh9 => c3w hh9.2),Ab ⟨rfl,c5w⟩]
   subst hn;exact qI
  ·have c5w : ¬ ((spS h a onR).2.2 = true ∧ (spS h a onW).2.2 = true) := by simpa using c5
   refine zN (zA (zB ?_));refine zB (zE zJ [] 800 rfl ?_);refine zF ?_;refine zT _ (gR (zO h v) s (wL g v)) rfl ?_;refine zF ?_;refine zC (zA (zL 900 ?_));refine zS rfl (fun c8 => ?_) (fun c8 => ?_)
   ·have c8w : ownB (zO h v) s = true := by simpa using c8
    refine zB (zE zJ [] 1000 rfl ?_);refine zF ?_;refine zT _ (qO _) rfl ?_;refine zF ?_;refine zC (zA (zK (zM ?_)));have hn : R = (vlS (ownV (zO h v) s),h) := by
     rw [hR];unfold wiS;rw [Aa (fun hh9 => c3w hh9.2),Aa (fun hh9 => c5w hh9.2),Ab c8w]
    subst hn;exact qI
   ·have c8w : ownB (zO h v) s = false := by simpa using c8
    refine zN (zA (zB (zL 1100 ?_)));refine dQ rfl ?_;refine zB (zE zJ [1070] 1200 rfl ?_);refine zF ?_;refine yK _ _ (vP0 h a v (zO h v).cls hh g ha hia hiv hcin) rfl ?_;refine zF ?_;refine zC (zA (zK (zM ?_)));have hn : R = bdS h a v (zO h v).cls true := by
     rw [hR];unfold wiS;rw [Aa (fun hh9 => c3w hh9.2),Aa (fun hh9 => c5w hh9.2),Aa (by rw [c8w];decide),Ab rfl]
    subst hn;exact qI
theorem WithF_G (h : List Ob) (v a : Vl) (s : ByteArray) (hh : HpIn h) (g : Uh h) (hk : (zO h v).kind = 10) (hv : qQ h v = true) (ha : a.k = 6 → yO h a.r = true) (hia : VlIn a) (hiv : VlIn v) (hs : s.size ≤ 100) : FnG Tryz.prog 60 [.bp 0 0,.agg (vlD v),.v (.string s),.agg (vlD a),.v (.bool false)] (hpO h) (.agg (stD (wiS h v s a false).1)) (hpO (wiS h v s a false).2) := by
 have hg5 := g.hi;obtain ⟨R,hR⟩ : ∃ R,R = wiS h v s a false := ⟨_,rfl⟩;rw [← hR];obtain ⟨h6,hob,eo⟩ := qD (h := h) (v := v) (by omega);have hin := yJ hob;have hcin := inst_cls g hk;have hvr : v.k = 6 → yO h v.r = true := fun _ => hob;refine qS zJ Tryz.func60 rfl rfl rfl rfl rfl rfl rfl ?_;intro w0 s0 mx;refine zL 100 ?_;refine zB (zU zJ [] mK19 200 yP (by kernel_rfl) rfl ?_);repeat (first | refine zG ?_ | refine zH ?_ | refine mA0 ?_)
 refine zC (zA (zB ?_));refine yH [0,2,4,6,8,10,11] [0,1,2,3,4,108] 210 [] [(108,.box 36 (obD (zO h v)))] ?_;refine ⟨⟨yG,⟨⟨rfl,by rw [eo];exact SubL.same rfl⟩,yD⟩,rfl,rfl⟩,?_⟩;refine zB (zU zJ [] mK1 300 yP (by kernel_rfl) rfl ?_);refine zF ?_;refine yN _ (yY h a ha) rfl rfl ?_;refine zF ?_;refine zC (zA ?_);refine yH [0,2,4,6,8,10,11,12] [0,1,2,3,4,108,215] 310 [] [(215,.box 36 (obD (zO h a)))] ?_;refine ⟨⟨yG,⟨⟨rfl,SubL.same rfl⟩,yD⟩,rfl,rfl⟩,?_⟩;refine zL 400 ?_;refine uR rfl ?_;refine zN (zA (zB ?_));refine zB (zU zJ [] mK20 600 yP (by kernel_rfl) rfl ?_);repeat (first | refine zG ?_ | refine zH ?_ | refine jA ?_ | refine vY ?_ | refine vZ ?_)
 refine bE (.v (.bool false)) rfl ?_;repeat (first | refine zG ?_ | refine zH ?_ | refine jA ?_ | refine vY ?_ | refine vZ ?_)
 refine zC (zA ?_);refine uR rfl ?_;refine zN (zA (zB ?_));refine zB (zE zJ [] 800 rfl ?_);refine zF ?_;refine zT _ (gR (zO h v) s (wL g v)) rfl ?_;refine zF ?_;refine zC (zA (zL 900 ?_));refine zS rfl (fun c8 => ?_) (fun c8 => ?_)
 ·have c8w : ownB (zO h v) s = true := by simpa using c8
  refine zB (zE zJ [] 1000 rfl ?_);refine zF ?_;refine zT _ (qO _) rfl ?_;refine zF ?_;refine zC (zA (zK (zM ?_)));have hn : R = (vlS (ownV (zO h v) s),h) := by
   rw [hR];unfold wiS;rw [Aa (fun hh9 => by cases hh9.1),Aa (fun hh9 => by cases hh9.1),Ab c8w]
  subst hn;exact qI
 ·have c8w : ownB (zO h v) s = false := by simpa using c8
  refine zN (zA (zB (zL 1100 ?_)));refine uR rfl ?_;refine zN (zA (zB ?_));refine zB (zU zJ [] mK21 1300 yP (by kernel_rfl) rfl ?_);refine zF ?_;refine zT _ (vB _) rfl ?_;refine zF ?_;refine yN _ ((wC h v onM [txV s] hh g hvr (by show 1 ≤ 1000000;decide)).args ⟨SubP.refl _,SubP.refl _,SubP.refl _,SubP.slrSl (m := false) rfl,trivial⟩) rfl rfl ?_;refine zF ?_;refine zC (zA (zL 1400 ?_));refine zS rfl (fun c13 => ?_) (fun c13 => ?_)
  ·have c13w : (spS h v onM).2.2 = true := by simpa using c13
   refine zL 1500 ?_;refine zK (zM ?_);have hn : R = (caS (spS h v onM).1 ((spS h v onM).2.1 ++ [txV s]),h) := by
    rw [hR];unfold wiS;rw [Aa (fun hh9 => by cases hh9.1),Aa (fun hh9 => by cases hh9.1),Aa (by rw [c8w];decide),Aa (by decide),Ab c13w]
   subst hn;exact qI
  ·have c13w : (spS h v onM).2.2 = false := by simpa using c13
   refine zN (zA ?_);refine zB (zU zJ [] mK2 1600 yP (by kernel_rfl) rfl ?_);refine zF ?_;refine yN _ (pT h v s g (cf_of g hv) (by omega) (by omega) (by omega)) rfl rfl ?_;refine zF ?_;refine zC (zA (zK ?_));have hn : R = (lkS h v s,h) := by
    rw [hR];unfold wiS;rw [Aa (fun hh9 => by cases hh9.1),Aa (fun hh9 => by cases hh9.1),Aa (by rw [c8w];decide),Aa (by decide),Aa (by rw [c13w];decide)]
   subst hn;exact qI
theorem With_G (h : List Ob) (v a : Vl) (s : ByteArray) (ok : Bool) (hh : HpIn h) (g : Uh h) (hk : (zO h v).kind = 10) (hv : qQ h v = true) (ha : a.k = 6 → yO h a.r = true) (hia : VlIn a) (hiv : VlIn v) (hs : s.size ≤ 100) : FnG Tryz.prog 60 [.bp 0 0,.agg (vlD v),.v (.string s),.agg (vlD a),.v (.bool ok)] (hpO h) (.agg (stD (wiS h v s a ok).1)) (hpO (wiS h v s a ok).2) := by
 cases ok
 ·exact WithF_G h v a s hh g hk hv ha hia hiv hs
 ·exact WithT_G h v a s hh g hk hv ha hia hiv hs
theorem ofInstance_G (h : List Ob) (v : Vl) (s : ByteArray) (hh : HpIn h) (g : Uh h) (hk : (zO h v).kind = 10) (hv : qQ h v = true) (hiv : VlIn v) (hs : s.size ≤ 100) : FnG Tryz.prog 36 [.bp 0 0,.agg (vlD v),.v (.string s)] (hpO h) (.agg (stD (wiS h v s (fdV h s (fdO h (zX h (zO h v).cls).order s)) (fdO h (zX h (zO h v).cls).order s).isSome).1)) (hpO (wiS h v s (fdV h s (fdO h (zX h (zO h v).cls).order s)) (fdO h (zX h (zO h v).cls).order s).isSome).2) := by
 have hg5 := g.hi;obtain ⟨h6,hob,eo⟩ := qD (h := h) (v := v) (by omega);have hin := yJ hob;have hcin := inst_cls g hk;have hfr := fun hk9 => jL0 hh g hcin s hk9;have hfi := (gc_fd g hh (L := (zX h (zO h v).cls).order) (fun r hr => ((cok_of hh g hcin).2 r hr).1) s).1.vin;have hfind := vS (md := true) h (zO h v).cls s hh hcin (cok_of hh g hcin);have hwith := With_G h v (fdV h s (fdO h (zX h (zO h v).cls).order s)) s (fdO h (zX h (zO h v).cls).order s).isSome hh g hk hv hfr hfi hiv hs;rw [eo] at hfind hwith ⊢;refine qS zJ Tryz.func36 rfl rfl rfl rfl rfl rfl rfl ?_;intro w0 s0 mx;refine zL 100 ?_;refine zB (zU zJ [] [[],[0],[0,1],[],[3],[3,4],[3,4,5],[],[7],[3,4,5,6,7,8],[3,4,5,6,7,8,9],[3,4,5,6,7,8,9,10],[],(rgN 13),(rgN 14),(rgN 15),(rgN 15),(rgN 15),[],[0,1,2,3,4,5,6,7,8,9,10,11,12,13,14,15,18],[0,1,2,3,4,5,6,7,8,9,10,11,12,13,14,15,16,18,19],(rgN 21)] 200 yP (by kernel_rfl) rfl ?_);repeat (first | refine zG ?_ | refine zH ?_ | refine mA0 ?_)
 refine yN _ (hfind) rfl rfl ?_;repeat (first | refine zG ?_ | refine zH ?_ | refine mA0 ?_)
 refine zC (zA ?_);refine zB (zE zJ [1033] 300 rfl ?_);refine zF ?_;refine yK _ _ (hwith) rfl ?_;refine zF ?_;refine zC (zA (zK ?_));exact qI
theorem yE1 {P : Program} {K : DS → Prop} {p : Prop} {r : Out} (hr : r.sat P K) (hp : p := by first | (simp only [Ao,Au];omega) | exact Dz) : (Out.need p r).sat P K := ⟨hp,hr⟩
theorem atGet_G (h : List Ob) (v : Vl) (s : ByteArray) (hh : HpIn h) (g : Uh h) (hk : (zO h v).kind = 9) (hs : s.size ≤ 100) : FnG Tryz.prog 37 [.bp 0 0,.v (.int .i64 v.r),.v (.string s)] (hpO h) (.agg (stD (clsS h v s).1)) (hpO (clsS h v s).2) := by
 have hg5 := g.hi;obtain ⟨R,hR⟩ : ∃ R,R = clsS h v s := ⟨_,rfl⟩;rw [← hR];obtain ⟨h6,hob,eo⟩ := qD (h := h) (v := v) (by omega);have hin := yJ hob;have hz := gY;have hoz := obj_sz g v;have hfind := vS (md := true) h v.r s hh hin (cok_of hh g hin);rw [← eo] at hfind;have hck := cok_of hh g hin;rw [← eo] at hck;have hol := hck.1;have hfr : (fdV h s (fdO h (zO h v).order s)).k = 6 → yO h (fdV h s (fdO h (zO h v).order s)).r = true := fun hk9 => by rw [eo] at hk9 ⊢;exact jL0 hh g hin s hk9
 have hfi := (gc_fd g hh (L := (zO h v).order) (fun r hr => (hck.2 r hr).1) s).1.vin;have hrf : ∀ u ∈ (zO h v).order.map rfV,VlIn u := fun u hu => by
  obtain ⟨r,hr,rfl⟩ := Bv.1 hu;exact (jF0 (hck.2 r hr).1 (by omega)).1.vin
 refine qS zJ Tryz.func37 rfl rfl rfl rfl rfl rfl rfl ?_;intro w0 s0 mx;refine zL 100 ?_;refine zB (zE zJ [] 200 rfl ?_);repeat (first | refine zG ?_ | refine zH ?_ | refine mA0 ?_)
 refine zC (zA (zB (zL 300 ?_)));refine zR ?_;refine yH [0,1,2,6,7,21] [0,1,2,107] 310 [] [(107,.box 36 (obD (zO h v)))] ?_;refine ⟨⟨yG,⟨⟨rfl,by rw [eo];exact SubL.same rfl⟩,yD⟩,rfl,rfl⟩,?_⟩;refine zL 400 ?_;refine zS rfl (fun c3 => ?_) (fun c3 => ?_)
 ·have c3w : s = gT := Af c3;refine zB (zE zJ [] 500 rfl ?_);refine zF ?_;refine zT _ (vB _) rfl ?_;refine zF ?_;refine zT _ (qO _) rfl ?_;refine zF ?_;refine zC (zA (zK (zQ (zM ?_))));have hn : R = (vlS (txV (zO h v).name),h) := by
   rw [hR];unfold clsS;rw [Ab c3w]
  subst hn;exact qI
 ·have c3w : ¬ s = gT := of_decide_eq_false c3;refine zL 600 ?_;refine zS rfl (fun c5 => ?_) (fun c5 => ?_)
  ·have c5w : s = ordB := Af c5;refine zL 700 ?_;refine yW 8 29 7 rfl ?_;refine zB (zL 800 ?_);refine zR ?_;refine yC (ι := {k : Nat // k ≤ (zO h v).order.length}) [0,6,31,32] [0,1,2,107] 850 (fun x => [(33,.v (.int .i64 x.1)),(8,.own 700 7 ((((zO h v).order.take x.1).map rfV).map vlD))]) (fun x => [(700,.row 29 7 ((((zO h v).order.take x.1).map rfV).map vlD).length)]) (fun x => (zO h v).order.length - x.1) ⟨0,Ap _⟩ ?_;refine ⟨⟨⟨Sub.int rfl,Sub.own rfl,yG⟩,⟨⟨rfl,rfl,rfl⟩,yD⟩,rfl,rfl⟩,fun x => ?_⟩;have hk1 : x.1 ≤ (zO h v).order.length := x.2;refine zL 900 ?_;refine zB (zS rfl (fun c8 => ?_) (fun c8 => ?_))
   ·have hlt : x.1 < (zO h v).order.length := by simpa using c8
    refine zN (zA (zB (zR (zL 1000 ?_))));refine zE zJ [] 1100 rfl ?_;repeat (first | refine zG ?_ | refine zH ?_ | refine yE1 ?_)
    refine zT _ (jW _) rfl ?_;repeat (first | refine zG ?_ | refine zH ?_ | refine yE1 ?_)
    refine zC (zP (zA (yT zJ [] 1200 ?_)));exact zV ⟨x.1 + 1,by omega⟩ ⟨⟨Sub.int (by push_cast;rfl),Sub.own (by rw [yZ hlt 0,Ad,Ad];rfl),yG⟩,⟨⟨rfl,rfl,by rw [yZ hlt 0];simp⟩,yD⟩,rfl,rfl⟩ (by show (zO h v).order.length - (x.1 + 1) < (zO h v).order.length - x.1;omega)
   ·have hke : x.1 = (zO h v).order.length := by
     have h9 : ¬ x.1 < (zO h v).order.length := by simpa using c8
     omega
    refine yF (yA (yB (zY (zA ?_))));refine zB (zE zJ [1046] 1300 rfl ?_);refine zF ?_;refine yK _ _ ((jB0 h (tuO ((zO h v).order.map rfV)) (by omega) (tu_in (by rw [Ao];omega) hrf)).args ⟨Sub.refl _,Sub.ofP (SubP.agg ⟨SubP.refl _,SubP.refl _,SubP.refl _,SubP.nilSl rfl,SubP.nilSl rfl,SubP.nilSl rfl,SubP.slrSl (by rw [hke,List.take_length];rfl),SubP.nilSl rfl,SubP.refl _,SubP.refl _,trivial⟩) rfl rfl,trivial⟩) rfl ?_;refine zF ?_;refine zT _ (jW _) rfl ?_;refine zF ?_;refine zT _ (qO _) rfl ?_;refine zF ?_;refine zC (zA (zK (zQ (zM ?_))));have hn : R = newS h (tuO ((zO h v).order.map rfV)) := by
     rw [hR];unfold clsS;rw [Aa c3w,Ab c5w]
    subst hn;exact qI
  ·have c5w : ¬ s = ordB := of_decide_eq_false c5;refine zN (zP (zA (zB ?_)));refine zB (zE zJ [] 1400 rfl ?_);refine zF ?_;refine yN _ (hfind) rfl rfl ?_;refine zF ?_;refine zC (zA (zL 1500 ?_));refine zS rfl (fun c14 => ?_) (fun c14 => ?_)
   ·have c14w : (fdO h (zO h v).order s).isSome = true := by simpa using c14
    refine zB (zE zJ [1063] 1600 rfl ?_);refine zF ?_;refine yK _ _ (qL0 h (fdV h s (fdO h (zO h v).order s)) v.r hh g hfr hfi hin) rfl ?_;refine zF ?_;refine zC (zA (zK (zM ?_)));have hn : R = bdS h (fdV h s (fdO h (zO h v).order s)) vl0 v.r false := by
     rw [hR];unfold clsS;rw [Aa c3w,Aa c5w,Ab c14w]
    subst hn;exact qI
   ·have c14w : (fdO h (zO h v).order s).isSome = false := by simpa using c14
    refine zN (zA ?_);refine zB (zE zJ [] 1700 rfl ?_);repeat (first | refine zG ?_ | refine zH ?_ | refine dE ?_)
    refine zT _ (jD _) rfl ?_;repeat (first | refine zG ?_ | refine zH ?_ | refine dE ?_)
    refine zC (zA (zK ?_));have hn : R = (raS 36 (cqB ++ (zO h v).name ++ nhB ++ s ++ qB),h) := by
     rw [hR];unfold clsS;rw [Aa c3w,Aa c5w,Aa (by rw [c14w];decide),lkS,whoS,Ab hk]
    subst hn;exact qI
theorem yD1 {P : Program} {K : DS → Prop} {p : Prop} {r : Out} (hr : r.sat P K) (hp : p := by first | exact ⟨by rw [← hCt];exact hsin.1,by rw [← hCt];exact hsin.2⟩ | exact ⟨hsin.1,hsin.2⟩ | exact ⟨rfl,hsin.2⟩ | exact ⟨by simp [MR.len],by simpa [MR.len] using hsin.2⟩ | rfl | (simp only [MR.len];done) | exact Dz) : (Out.need p r).sat P K := ⟨hp,hr⟩
theorem gS0 {P : Program} {K : DS → Prop} {p : Prop} {r : Out} (hr : r.sat P K) (hp : p := by first | exact ⟨by decide,by rw [hl2];decide⟩ | exact ⟨rfl,by rw [hl2];decide⟩ | exact ini (by show _ ≤ ixI (zX h C).order ((zO h v).items.getD 0 vl0).r + 1;omega) (by show ixI (zX h C).order ((zO h v).items.getD 0 vl0).r + 1 ≤ _;omega) | exact Dz) : (Out.need p r).sat P K := ⟨hp,hr⟩
set_option maxHeartbeats 2000000 in
theorem above_G (h : List Ob) (v : Vl) (s : ByteArray) (hh : HpIn h) (g : Uh h) (hk : (zO h v).kind = 15) (hs : s.size ≤ 100) : FnG Tryz.prog 41 [.bp 0 0,.agg (obD (zO h v)),.v (.string s)] (hpO h) (.agg (stD (upS h (zO h v) s).1)) (hpO (upS h (zO h v) s).2) := by
 have hg5 := g.hi;obtain ⟨R,hR⟩ : ∃ R,R = upS h (zO h v) s := ⟨_,rfl⟩;rw [← hR];obtain ⟨hl2,hsin,hsh,hs109⟩ := su_links g hk;obtain ⟨h6,hob,eo⟩ := qD (h := h) (v := v) (by omega);have hin := yJ hob;have hz := gY;have hwm : ((zO h v).items.getD 1 vl0) ∈ (zO h v).items := by
  rw [Ai,Ac (by omega)];exact Ca _
 have hwr : ((zO h v).items.getD 1 vl0).k = 6 → yO h ((zO h v).items.getD 1 vl0).r = true := fun hk9 => g.items hin (by rw [← eo];exact hwm) hk9;have hwi := (vD (gc_obj g hh v) 1).1.vin;obtain ⟨C,hC⟩ : ∃ C,C = suC h (zO h v) := ⟨_,rfl⟩;have hCe : suC h (zO h v) = if (zO h ((zO h v).items.getD 1 vl0)).kind = 10 then (zO h ((zO h v).items.getD 1 vl0)).cls else ((zO h v).items.getD 1 vl0).r := rfl;rw [← hC] at hsin hsh hCe;have hrg := pF0 hsh;have hol := (hh.at C).ol;have hck := aft_in hh g hsin ((zO h v).items.getD 0 vl0).r;have hsa : suA h (zO h v) s = fdO h (aftL (zX h C).order ((zO h v).items.getD 0 vl0).r) s := by unfold suA;rw [← hC]
 obtain ⟨A,hA⟩ : ∃ A,A = fdV h s (suA h (zO h v) s) := ⟨_,rfl⟩;obtain ⟨S,hS⟩ : ∃ S,S = suA h (zO h v) s := ⟨_,rfl⟩;have har : A.k = 6 → yO h A.r = true := fun hk9 => by
  rw [hA,hsa] at hk9 ⊢
  cases hf : fdO h (aftL (zX h C).order ((zO h v).items.getD 0 vl0).r) s with
  | none => rw [hf] at hk9;exact absurd hk9 (show ¬ (0 : Int) = 6 by decide)
  | some r =>
   rw [hf] at hk9;exact own_rv g (hck.2 r (Cw hf)).1 s hk9
 have hai : VlIn A := by rw [hA,hsa];exact (gc_fd g hh (fun r hr => (hck.2 r hr).1) s).1.vin
 rw [← hS] at hA hsa;refine qS zJ Tryz.func41 rfl rfl rfl rfl rfl rfl rfl ?_;intro w0 s0 mx;refine zL 100 ?_;refine zB (zE zJ [] 200 rfl ?_);repeat (first | refine zG ?_ | refine zH ?_ | refine zW (by first | exact ⟨by decide,by rw [hl2];decide⟩ | exact ⟨rfl,by rw [hl2];decide⟩ | exact Dz) ?_)
 refine zC (zA (zL 300 ?_));refine zB ?_;refine yH [0,2,4,6,7,8,9] [0,1,2,3,104] 310 [] [(104,.box 29 (vlD ((zO h v).items.getD 1 vl0)))] ?_;refine ⟨⟨yG,⟨⟨rfl,SubL.same rfl⟩,yD⟩,rfl,rfl⟩,?_⟩;refine zB (zU zJ [] mK1 400 yP (by kernel_rfl) rfl ?_);refine zF ?_;refine yN _ (yY h ((zO h v).items.getD 1 vl0) hwr) rfl rfl ?_;refine zF ?_;refine zC (zA (zL 500 ?_));refine zS rfl (fun c4 => ?_) (fun c4 => ?_)
 ·have c4w : (zO h ((zO h v).items.getD 1 vl0)).kind = 10 := by simpa using c4
  rw [Ab c4w] at hCe;refine yT zJ [] 600 ?_;refine zA ?_;refine yH [0,2,4,6,7,9] [0,1,2,3,104] 610 [(8,.v (.int .i64 C))] [(315,.box 36 (obD (zO h ((zO h v).items.getD 1 vl0))))] ?_;refine ⟨⟨⟨Sub.int hCe.symm,yG⟩,⟨⟨rfl,SubL.same rfl⟩,yD⟩,rfl,rfl⟩,?_⟩;refine zB (zE zJ [] 700 rfl ?_);repeat (first | refine zG ?_ | refine zH ?_ | refine yD1 ?_)
  refine zC (zA ?_);refine zB (zU zJ [] mK22 800 yP (by kernel_rfl) rfl ?_);repeat (first | refine zG ?_ | refine zH ?_ | refine gS0 ?_)
  refine zT _ (tL (zX h C).order ((zO h v).items.getD 0 vl0).r) rfl ?_;repeat (first | refine zG ?_ | refine zH ?_ | refine gS0 ?_)
  refine yN _ ((gC h (aftL (zX h C).order ((zO h v).items.getD 0 vl0).r) s hh hck).args ⟨SubP.refl _,SubP.of_eq (by show D.sl false 1 _ iD 0 = .sl false 1 _ iD 0;congr 1;unfold aftL;exact cU _ _),SubP.refl _,trivial⟩) rfl rfl ?_;repeat (first | refine zG ?_ | refine zH ?_ | refine gS0 ?_)
  refine zC (zA (zB ?_));refine yH [0,2,6,7,8,9,12] [0,1,3,104,719] 810 [(14,.v (.bool S.isSome))] [(719,.box 29 (vlD A))] ?_;refine ⟨⟨⟨Sub.bool (by rw [hsa]),yG⟩,⟨⟨rfl,by rw [hA,hsa];exact SubL.same rfl⟩,yD⟩,rfl,rfl⟩,?_⟩;refine zB (zU zJ [] mK1 900 yP (by kernel_rfl) rfl ?_);refine zF ?_;refine yN _ (yY h A har) rfl rfl ?_;refine zF ?_;refine zC (zA (zR ?_));refine yH [0,2,6,7,8,9,12,14,15] [0,1,3,104,719,815] 910 [] [(815,.box 36 (obD (zO h A)))] ?_;refine ⟨⟨yG,⟨⟨rfl,SubL.same rfl⟩,yD⟩,rfl,rfl⟩,?_⟩;refine zL 1000 ?_;refine zS rfl (fun c9 => ?_) (fun c9 => ?_)
  ·have c9w : S.isSome = false := by simpa using c9
   refine zB (zE zJ [] 1100 rfl ?_);repeat (first | refine zG ?_ | refine zH ?_ | refine dE ?_)
   refine zT _ (jD _) rfl ?_;repeat (first | refine zG ?_ | refine zH ?_ | refine dE ?_)
   refine zC (zA (zK (zQ (zM ?_))));have hn : R = (raS 36 (suB ++ s ++ qB),h) := by
    rw [hR];unfold upS;rw [← hS];rw [Ab c9w]
   subst hn;exact qI
  ·have c9w : S.isSome = true := by simpa using c9
   refine zL 1200 ?_;refine uR rfl ?_;refine zL 1400 ?_;refine zS rfl (fun c13 => ?_) (fun c13 => ?_)
   ·have c13w : (zO h A).kind = 12 := by simpa using c13
    refine zB (zE zJ [] 1500 rfl ?_);refine zF ?_;refine zT _ (jC0 (zO h A) ((zO h v).items.getD 1 vl0) s (by rw [prop_item g c13w];decide) (by omega)) rfl ?_;refine zF ?_;refine zC (zA (zK (zQ (zM ?_))));have hn : R = (gtS (zO h A) ((zO h v).items.getD 1 vl0) s,h) := by
     rw [hR];unfold upS;rw [← hS];rw [← hA,← hC];rw [Aa (by rw [c9w];decide),Aa (not_not_intro c4w),Ab c13w]
    subst hn;exact qI
   ·have c13w : ¬ (zO h A).kind = 12 := by simpa using c13
    refine zN (zP (zA ?_));refine zB (zE zJ [1090] 1600 rfl ?_);refine zF ?_;refine yK _ _ (vP0 h A ((zO h v).items.getD 1 vl0) C hh g har hai hwi hsin) rfl ?_;refine zF ?_;refine zC (zA (zK ?_));have hn : R = bdS h A ((zO h v).items.getD 1 vl0) C true := by
     rw [hR];unfold upS;rw [← hS];rw [← hA,← hC];rw [Aa (by rw [c9w];decide),Aa (not_not_intro c4w),Aa c13w]
    subst hn;exact qI
 ·have c4w : ¬ (zO h ((zO h v).items.getD 1 vl0)).kind = 10 := by simpa using c4
  rw [Aa c4w] at hCe;refine zN (zA ?_);refine yH [0,2,4,6,7,9] [0,1,2,3,104] 510 [(8,.v (.int .i64 C))] [(315,.box 36 (obD (zO h ((zO h v).items.getD 1 vl0))))] ?_;refine ⟨⟨⟨Sub.int hCe.symm,yG⟩,⟨⟨rfl,SubL.same rfl⟩,yD⟩,rfl,rfl⟩,?_⟩;refine zB (zE zJ [] 700 rfl ?_);repeat (first | refine zG ?_ | refine zH ?_ | refine yD1 ?_)
  refine zC (zA ?_);refine zB (zU zJ [] mK22 800 yP (by kernel_rfl) rfl ?_);repeat (first | refine zG ?_ | refine zH ?_ | refine gS0 ?_)
  refine zT _ (tL (zX h C).order ((zO h v).items.getD 0 vl0).r) rfl ?_;repeat (first | refine zG ?_ | refine zH ?_ | refine gS0 ?_)
  refine yN _ ((gC h (aftL (zX h C).order ((zO h v).items.getD 0 vl0).r) s hh hck).args ⟨SubP.refl _,SubP.of_eq (by show D.sl false 1 _ iD 0 = .sl false 1 _ iD 0;congr 1;unfold aftL;exact cU _ _),SubP.refl _,trivial⟩) rfl rfl ?_;repeat (first | refine zG ?_ | refine zH ?_ | refine gS0 ?_)
  refine zC (zA (zB ?_));refine yH [0,2,6,7,8,9,12] [0,1,3,104,719] 810 [(14,.v (.bool S.isSome))] [(719,.box 29 (vlD A))] ?_;refine ⟨⟨⟨Sub.bool (by rw [hsa]),yG⟩,⟨⟨rfl,by rw [hA,hsa];exact SubL.same rfl⟩,yD⟩,rfl,rfl⟩,?_⟩;refine zB (zU zJ [] mK1 900 yP (by kernel_rfl) rfl ?_);refine zF ?_;refine yN _ (yY h A har) rfl rfl ?_;refine zF ?_;refine zC (zA (zR ?_));refine yH [0,2,6,7,8,9,12,14,15] [0,1,3,104,719,815] 910 [] [(815,.box 36 (obD (zO h A)))] ?_;refine ⟨⟨yG,⟨⟨rfl,SubL.same rfl⟩,yD⟩,rfl,rfl⟩,?_⟩;refine zL 1000 ?_;refine zS rfl (fun c9 => ?_) (fun c9 => ?_)
  ·have c9w : S.isSome = false := by simpa using c9
   refine zB (zE zJ [] 1100 rfl ?_);repeat (first | refine zG ?_ | refine zH ?_ | refine dE ?_)
   refine zT _ (jD _) rfl ?_;repeat (first | refine zG ?_ | refine zH ?_ | refine dE ?_)
   refine zC (zA (zK (zQ (zM ?_))));have hn : R = (raS 36 (suB ++ s ++ qB),h) := by
    rw [hR];unfold upS;rw [← hS];rw [Ab c9w]
   subst hn;exact qI
  ·have c9w : S.isSome = true := by simpa using c9
   refine zL 1200 ?_;refine dQ rfl ?_;refine zB (zE zJ [1077] 1300 rfl ?_);refine zF ?_
   refine yK _ _ (by
     have h9 := qL0 h A C hh g har hai hsin;rw [bd_any h A vl0 ((zO h v).items.getD 1 vl0) C] at h9;exact h9) rfl ?_
   refine zF ?_;refine zC (zA (zK (zQ (zM ?_))));have hn : R = bdS h A ((zO h v).items.getD 1 vl0) C false := by
    rw [hR];unfold upS;rw [← hS];rw [← hA,← hC];rw [Aa (by rw [c9w];decide),Ab c4w]
   subst hn;exact qI
theorem mC0 {P : Program} {K : DS → Prop} {p : Prop} {r : Out} (hr : r.sat P K) (hp : p := by first | exact ⟨by decide,(meth_item g c7w.1).1⟩ | exact ⟨rfl,(meth_item g c7w.1).1⟩ | exact Dz) : (Out.need p r).sat P K := ⟨hp,hr⟩
theorem mB0 {P : Program} {K : DS → Prop} {p : Prop} {r : Out} (hr : r.sat P K) (hp : p := by first | exact ⟨by decide,(meth_item g c9).1⟩ | exact ⟨rfl,(meth_item g c9).1⟩ | exact ⟨hii.1,hii.2⟩ | exact ⟨rfl,hii.2⟩ | exact ⟨by simp [MR.len],by simpa [MR.len] using hii.2⟩ | rfl | (simp only [MR.len];done) | exact Dz) : (Out.need p r).sat P K := ⟨hp,hr⟩
theorem wD0 {P : Program} {K : DS → Prop} {p : Prop} {r : Out} (hr : r.sat P K) (hp : p := by first | exact ⟨hci.1,hci.2⟩ | exact ⟨rfl,hci.2⟩ | exact ⟨by simp [MR.len],by simpa [MR.len] using hci.2⟩ | rfl | (simp only [MR.len];done) | (simp only [Av,kbs,Bi,Ak,Aq];omega) | exact Dz) : (Out.need p r).sat P K := ⟨hp,hr⟩
set_option maxHeartbeats 2000000 in
theorem builtin_G (h : List Ob) (v : Vl) (s : ByteArray) (hh : HpIn h) (g : Uh h) (hv : qQ h v = true) (hiv : VlIn v) (hs : s.size ≤ 100) (h9 : ¬ (zO h v).kind = 9) (h11 : ¬ (zO h v).kind = 11) : FnG Tryz.prog 42 [.bp 0 0,.agg (vlD v),.v (.string s)] (hpO h) (.agg (stD (biS h v s).1)) (hpO (biS h v s).2) := by
 have hg5 := g.hi;obtain ⟨R,hR⟩ : ∃ R,R = biS h v s := ⟨_,rfl⟩;rw [← hR];have hz := gY;have hcf := cf_of g hv;have hvo := vC hv;have hci := clA_in g hcf;have hnz := nm_sz g hci;have hnz2 : (h.getD (clA h v).toNat ob0).name.size ≤ 700 := hnz;have hoz := obj_sz g v;have hbi : VlIn (biV ((zX h (clA h v)).name ++ dotB ++ s)) := ⟨(by decide : (-9223372036854775808 : Int) ≤ 7),(by decide : (7 : Int) ≤ 9223372036854775807),(by decide : (-9223372036854775808 : Int) ≤ 0),(by decide : (0 : Int) ≤ 9223372036854775807),(fun _ h => by cases h),(fun _ h => by cases h),(by decide : 0 ≤ 2000000),(by decide : 0 ≤ 2000000),by show ((zX h (clA h v)).name ++ dotB ++ s).size ≤ 2000000;rw [Av,Av];omega⟩;refine qS zJ Tryz.func42 rfl rfl rfl rfl rfl rfl rfl ?_;intro w0 s0 mx;refine zL 100 ?_;refine zB (zU zJ [] mK1 200 yP (by kernel_rfl) rfl ?_);refine zF ?_;refine yN _ (yY h v hvo) rfl rfl ?_;refine zF ?_;refine zC (zA (zB ?_));refine yH [0,2,4,6,7] [0,1,2,3,105] 210 [] [(105,.box 36 (obD (zO h v)))] ?_;refine ⟨⟨yG,⟨⟨rfl,SubL.same rfl⟩,yD⟩,rfl,rfl⟩,?_⟩;refine zL 300 ?_;refine zS rfl (fun c2 => ?_) (fun c2 => ?_)
 ·have c2w : s = gT := Af c2;refine zR (zL 400 ?_);refine zZ (fun c3 => ?_) (fun c3 => ?_)
  ·
   refine zB (zE zJ [] 500 rfl ?_);refine zF ?_;refine zT _ (vB _) rfl ?_;refine zF ?_;refine zT _ (qO _) rfl ?_;refine zF ?_;refine zC (zA (zK (zQ (zM ?_))));have hnm : jR h v = (v.s,true) := by unfold jR jT;rw [Ab c3]
   have hn : R = (vlS (txV (v.s)),h) := by
    rw [hR];unfold biS;rw [Ab ⟨c2w,by rw [hnm]⟩,hnm]
   subst hn;exact qI
  ·
   refine zL 600 ?_;refine zZ (fun c5 => ?_) (fun c5 => ?_)
   ·
    refine zB (zE zJ [] 700 rfl ?_);refine zF ?_;refine zT _ (vB _) rfl ?_;refine zF ?_;refine zT _ (qO _) rfl ?_;refine zF ?_;refine zC (zA (zK (zQ (zM ?_))));have hnm : jR h v = ((zO h v).name,true) := by unfold jR jT;rw [Aa c3,Ab c5]
    have hn : R = (vlS (txV ((zO h v).name)),h) := by
     rw [hR];unfold biS;rw [Ab ⟨c2w,by rw [hnm]⟩,hnm]
    subst hn;exact qI
   ·
    refine zB (zE zJ [] 800 rfl ?_);repeat (first | refine zG ?_ | refine zH ?_ | refine zW (by first | exact ⟨by decide,(meth_item g (by assumption)).1⟩ | exact ⟨rfl,(meth_item g (by assumption)).1⟩ | exact fun hh9 => ⟨by decide,(meth_item g (by simpa using hh9)).1⟩ | exact fun hh9 => ⟨rfl,(meth_item g (by simpa using hh9)).1⟩ | exact fun hh9 => (meth_item g (by simpa using hh9)).1 | exact Dz) ?_)
    refine zC (zA (zS rfl (fun c7 => ?_) (fun c7 => ?_)))
    ·have c7w : (zO h v).kind = 8 ∧ ((zO h v).items.getD 0 vl0).k = 7 := by simpa using c7
     refine zB (zE zJ [] 900 rfl ?_);repeat (first | refine zG ?_ | refine zH ?_ | refine mC0 ?_)
     refine zT _ (vB _) rfl ?_;repeat (first | refine zG ?_ | refine zH ?_ | refine mC0 ?_)
     refine zT _ (qO _) rfl ?_;repeat (first | refine zG ?_ | refine zH ?_ | refine mC0 ?_)
     refine zC (zA (zK (zQ (zM ?_))));have hn1 : qQ0 h ((zO h v).items.getD 0 vl0) = (((zO h v).items.getD 0 vl0).s,true) := by unfold qQ0 jT;rw [Ab c7w.2]
     have hnm : jR h v = (((zO h v).items.getD 0 vl0).s,true) := by unfold jR jT;rw [Aa c3,Aa c5,Ab c7w.1,hn1]
     have hn : R = (vlS (txV (((zO h v).items.getD 0 vl0).s)),h) := by
      rw [hR];unfold biS;rw [Ab ⟨c2w,by rw [hnm]⟩,hnm]
     subst hn;exact qI
    ·have c7w : ¬ ((zO h v).kind = 8 ∧ ((zO h v).items.getD 0 vl0).k = 7) := by simpa using c7
     refine zL 1000 ?_;refine zS rfl (fun c9 => ?_) (fun c9 => ?_)
     ·replace c9 : (zO h v).kind = 8 := by simpa using c9
      have hi7 : ¬ ((zO h v).items.getD 0 vl0).k = 7 := fun h8 => c7w ⟨c9,h8⟩;have hif : (zO h ((zO h v).items.getD 0 vl0)).kind = 7 := by
       have h8 := (meth_item g c9).2;simp only [uT,Bz,Am] at h8;exact h8.resolve_left hi7
      obtain ⟨hi6,hio,hie⟩ := qD (h := h) (v := ((zO h v).items.getD 0 vl0)) (by omega);have hii := yJ hio;refine zB (zU zJ [] [[],[0],[0,1],[0,1,2],[],[4],[4,5],[4,5,6],[4,5,6,7],(rgN 9),(rgN 10),(rgN 11),(rgN 12),(rgN 13),(rgN 14)] 1100 yP (by kernel_rfl) rfl ?_);repeat (first | refine zG ?_ | refine zH ?_ | refine mB0 ?_)
      refine zT _ ((vB (zO h ((zO h v).items.getD 0 vl0)).name).args ⟨SubP.of_eq (by rw [hie];rfl),trivial⟩) rfl ?_;repeat (first | refine zG ?_ | refine zH ?_ | refine mB0 ?_)
      refine zT _ (qO _) rfl ?_;repeat (first | refine zG ?_ | refine zH ?_ | refine mB0 ?_)
      refine zC (zA (zK (zQ (zM ?_))));have hn1 : qQ0 h ((zO h v).items.getD 0 vl0) = ((zO h ((zO h v).items.getD 0 vl0)).name,true) := by unfold qQ0 jT;rw [Aa hi7,Ab hif]
      have hn2 : (zO h ((zO h v).items.getD 0 vl0)).name = (zX h ((zO h v).items.getD 0 vl0).r).name := by rw [hie]
      have hnm : jR h v = ((zO h ((zO h v).items.getD 0 vl0)).name,true) := by unfold jR jT;rw [Aa c3,Aa c5,Ab c9,hn1]
      have hn : R = (vlS (txV ((zO h ((zO h v).items.getD 0 vl0)).name)),h) := by
       rw [hR];unfold biS;rw [Ab ⟨c2w,by rw [hnm]⟩,hnm]
      subst hn;exact qI
     ·replace c9 : ¬ (zO h v).kind = 8 := by simpa using c9
      refine zN (zP (zA (zB ?_)));refine zB (zU zJ [] mK5 1200 yP (by kernel_rfl) rfl ?_);refine zF ?_;refine yN _ (wI h v hcf) rfl rfl ?_;refine zF ?_;refine zC (zA ?_);refine zB (zE zJ [] 1300 rfl ?_);refine zF ?_;refine zT _ (gZ _) rfl ?_;refine zF ?_;refine zT _ (uM (mtL (clA h v)) s) rfl ?_;refine zF ?_;refine zC (zA (zS rfl (fun c12 => ?_) (fun c12 => ?_)))
      ·have c12w : jF (mtL (clA h v)) s = true := by simpa using c12
       refine zB (zU zJ [1092] mK23 1400 yP (by kernel_rfl) rfl ?_);repeat (first | refine zG ?_ | refine zH ?_ | refine wD0 ?_)
       refine yK _ _ ((wU h (biV ((zX h (clA h v)).name ++ dotB ++ s)) v (by omega) hbi hiv).args ⟨Sub.refl _,Sub.ofP (SubP.agg (by repeat (first | exact trivial | exact SubP.refl _ | exact SubP.nilSl rfl | refine ⟨?_,?_⟩))) rfl rfl,Sub.refl _,trivial⟩) rfl ?_;repeat (first | refine zG ?_ | refine zH ?_ | refine wD0 ?_)
       refine zC (zA (zK (zM ?_)));have hnn : ¬ (s = gT ∧ (jR h v).2 = true) := fun hh9 => by
        have h8 := hh9.2;rw [xD0 h g v,Br c3,Br c5,Br c9] at h8
        cases h8
       have hn : R = newS h (mtO (biV ((zX h (clA h v)).name ++ dotB ++ s)) v) := by
        rw [hR];unfold biS;rw [Aa hnn,Ab c12w]
       subst hn;exact qI
      ·have c12w : jF (mtL (clA h v)) s = false := by simpa using c12
       refine zN (zA ?_);refine zB (zU zJ [] mK2 1500 yP (by kernel_rfl) rfl ?_);refine zF ?_;refine yN _ (pT h v s g hcf (by omega) h9 h11) rfl rfl ?_;refine zF ?_;refine zC (zA (zK ?_));have hnn : ¬ (s = gT ∧ (jR h v).2 = true) := fun hh9 => by
        have h8 := hh9.2;rw [xD0 h g v,Br c3,Br c5,Br c9] at h8
        cases h8
       have hn : R = (lkS h v s,h) := by
        rw [hR];unfold biS;rw [Aa hnn,Aa (by rw [c12w];decide)]
       subst hn;exact qI
 ·have c2w : ¬ s = gT := of_decide_eq_false c2;refine zN (zA (zB ?_));refine zB (zU zJ [] mK5 1200 yP (by kernel_rfl) rfl ?_);refine zF ?_;refine yN _ (wI h v hcf) rfl rfl ?_;refine zF ?_;refine zC (zA ?_);refine zB (zE zJ [] 1300 rfl ?_);refine zF ?_;refine zT _ (gZ _) rfl ?_;refine zF ?_;refine zT _ (uM (mtL (clA h v)) s) rfl ?_;refine zF ?_;refine zC (zA (zS rfl (fun c12 => ?_) (fun c12 => ?_)))
  ·have c12w : jF (mtL (clA h v)) s = true := by simpa using c12
   refine zB (zU zJ [1092] mK23 1400 yP (by kernel_rfl) rfl ?_);repeat (first | refine zG ?_ | refine zH ?_ | refine wD0 ?_)
   refine yK _ _ ((wU h (biV ((zX h (clA h v)).name ++ dotB ++ s)) v (by omega) hbi hiv).args ⟨Sub.refl _,Sub.ofP (SubP.agg (by repeat (first | exact trivial | exact SubP.refl _ | exact SubP.nilSl rfl | refine ⟨?_,?_⟩))) rfl rfl,Sub.refl _,trivial⟩) rfl ?_;repeat (first | refine zG ?_ | refine zH ?_ | refine wD0 ?_)
   refine zC (zA (zK (zM ?_)));have hnn : ¬ (s = gT ∧ (jR h v).2 = true) := fun hh9 => c2w hh9.1;have hn : R = newS h (mtO (biV ((zX h (clA h v)).name ++ dotB ++ s)) v) := by
    rw [hR];unfold biS;rw [Aa hnn,Ab c12w]
   subst hn;exact qI
  ·have c12w : jF (mtL (clA h v)) s = false := by simpa using c12
   refine zN (zA ?_);refine zB (zU zJ [] mK2 1500 yP (by kernel_rfl) rfl ?_);refine zF ?_;refine yN _ (pT h v s g hcf (by omega) h9 h11) rfl rfl ?_;refine zF ?_;refine zC (zA (zK ?_));have hnn : ¬ (s = gT ∧ (jR h v).2 = true) := fun hh9 => c2w hh9.1;have hn : R = (lkS h v s,h) := by
    rw [hR];unfold biS;rw [Aa hnn,Aa (by rw [c12w];decide)]
   subst hn;exact qI
theorem atGetV_G (h : List Ob) (v : Vl) (s : ByteArray) (hh : HpIn h) (g : Uh h) (hv : qQ h v = true) (hiv : VlIn v) (hs : s.size ≤ 100) : FnG Tryz.prog 11 [.bp 0 0,.agg (vlD v),.v (.string s)] (hpO h) (.agg (stD (jQ h v s).1)) (hpO (jQ h v s).2) := by
 have hg5 := g.hi;obtain ⟨R,hR⟩ : ∃ R,R = jQ h v s := ⟨_,rfl⟩;rw [← hR];have hz := gY;have hcf := cf_of g hv;have hvo := vC hv;have hci := clA_in g hcf;have hnz := nm_sz g hci;have hnz2 : (h.getD (clA h v).toNat ob0).name.size ≤ 700 := hnz;have hoz := obj_sz g v;refine qS zJ Tryz.func11 rfl rfl rfl rfl rfl rfl rfl ?_;intro w0 s0 mx;refine zL 100 ?_;refine zB ?_;refine zB (zU zJ [] mK1 200 yP (by kernel_rfl) rfl ?_);refine zF ?_;refine yN _ (yY h v hvo) rfl rfl ?_;refine zF ?_;refine zC (zA ?_);refine yH [0,2,4,6,7] [0,1,2,3,105] 210 [] [(105,.box 36 (obD (zO h v)))] ?_;refine ⟨⟨yG,⟨⟨rfl,SubL.same rfl⟩,yD⟩,rfl,rfl⟩,?_⟩;refine zL 300 ?_;refine zR (zL 400 ?_);refine zZ (fun c3 => ?_) (fun c3 => ?_)
 ·
  refine zB (zE zJ [1022] 500 rfl ?_);refine zF ?_;refine yK _ _ (ofInstance_G h v s hh g c3 hv hiv hs) rfl ?_;refine zF ?_;refine zC (zA (zK (zQ (zM ?_))));have hn : R = wiS h v s (fdV h s (fdO h (zX h (zO h v).cls).order s)) (fdO h (zX h (zO h v).cls).order s).isSome := by
   rw [hR];unfold jQ;rw [Ab c3]
  subst hn;exact qI
 ·
  refine zL 600 ?_;refine zZ (fun c5 => ?_) (fun c5 => ?_)
  ·
   refine zB (zE zJ [1029] 700 rfl ?_);refine zF ?_;refine yK _ _ (atGet_G h v s hh g c5 hs) rfl ?_;refine zF ?_;refine zC (zA (zK (zQ (zM ?_))));have hn : R = clsS h v s := by
    rw [hR];unfold jQ;rw [Aa c3,Ab c5]
   subst hn;exact qI
  ·
   refine zL 800 ?_;refine zZ (fun c7 => ?_) (fun c7 => ?_)
   ·
    refine zB ?_;refine zB (zE zJ [] 900 rfl ?_);refine zF ?_;refine zT _ (gR (zO h v) s (wL g v)) rfl ?_;refine zF ?_;refine zC (zA (zL 1000 ?_));refine zS rfl (fun c9 => ?_) (fun c9 => ?_)
    ·have c9w : ownB (zO h v) s = true := by simpa using c9
     refine zB (zE zJ [] 1100 rfl ?_);refine zF ?_;refine zT _ (qO _) rfl ?_;refine zF ?_;refine zC (zA (zK (zM (zQ (zM ?_)))));have hn : R = (vlS (ownV (zO h v) s),h) := by
      rw [hR];unfold jQ;rw [Aa c3,Aa c5,Ab c7,Ab c9w]
     subst hn;exact qI
    ·have c9w : ownB (zO h v) s = false := by simpa using c9
     refine zN (zA ?_);refine zB (zE zJ [] 1200 rfl ?_);repeat (first | refine zG ?_ | refine zH ?_ | refine dE ?_)
     refine zT _ (jD _) rfl ?_;repeat (first | refine zG ?_ | refine zH ?_ | refine dE ?_)
     refine zC (zA (zK (zQ (zM ?_))));have hn : R = (raS 36 (mqB ++ (zO h v).name ++ nhB ++ s ++ qB),h) := by
      rw [hR];unfold jQ;rw [Aa c3,Aa c5,Ab c7,Aa (by rw [c9w];decide),lkS,whoS,Aa c5,Ab c7]
     subst hn;exact qI
   ·
    refine zL 1300 ?_;refine zZ (fun c12 => ?_) (fun c12 => ?_)
    ·
     refine zB (zE zJ [1054] 1400 rfl ?_);refine zF ?_;refine yK _ _ (above_G h v s hh g c12 hs) rfl ?_;refine zF ?_;refine zC (zA (zK (zQ (zM ?_))));have hn : R = upS h (zO h v) s := by
      rw [hR];unfold jQ;rw [Aa c3,Aa c5,Aa c7,Ab c12]
     subst hn;exact qI
    ·
     refine zN (zP (zA ?_));refine zB (zE zJ [1058] 1500 rfl ?_);refine zF ?_;refine yK _ _ (builtin_G h v s hh g hv hiv hs c5 c7) rfl ?_;refine zF ?_;refine zC (zA (zK ?_));have hn : R = biS h v s := by
      rw [hR];unfold jQ;rw [Aa c3,Aa c5,Aa c7,Aa c12]
     subst hn;exact qI
end Gq
end Go.Proofs.YtifgelimmddkpaaGreatDoor
