/- Part 23 of the proof. -/
import Derived.Test.YtnajlcfdjjmfiaaGreatDoorM22
namespace Go.Proofs.YtnajlcfdjjmfiaaGreatDoor
namespace Gq
open Go.RowKit
variable {md me : Bool}
theorem heapName_ok (h : List Ob) (v : Vl) (g : Uh h) (c : Cf h v) : Fn Tryz.prog 33 [hpD md h,.agg (vlD v)] (.v (.string (zW h (clA h v)).name)) := by
 refine yQ zP Tryz.func33 rfl rfl rfl rfl rfl rfl ?_;intro w0 s0 mx;refine zN 100 ?_;refine zB (zT zP [] mK15 200 yP (by kernel_rfl) rfl ?_);repeat (first | refine zG ?_ | refine zH ?_ | refine zV (by exact clA_in g c) ?_)
 refine zQ _ (jR h v c) rfl ?_;repeat (first | refine zG ?_ | refine zH ?_ | refine zV (by exact clA_in g c) ?_)
 refine zC (zA (zL ?_));exact FinV.ret rfl (SubP.refl _)
set_option maxHeartbeats 1000000 in
theorem Special_ok (h : List Ob) (v : Vl) (s : ByteArray) (hh : HpIn h) (g : Uh h) (hv : v.k = 6 → yD h v.r = true) : Fn Tryz.prog 71 [hpD md h,.agg (vlD v),.v (.string s)] (.tup [.agg (vlD (spS h v s).1),vsD (spS h v s).2.1,.v (.bool (spS h v s).2.2)]) := by
 refine yQ zP Tryz.func71 rfl rfl rfl rfl rfl rfl ?_;intro w0 s0 mx;refine zN 100 ?_;refine zB ?_;refine zB (zE zP [] 200 rfl ?_);refine zF ?_;refine zQ _ (yJ _ _ (by first | assumption | omega | (simp_all;done))) rfl ?_;refine zF ?_;refine zC (zA (zS rfl (fun c1 => ?_) (fun c1 => ?_)))
 ·replace c1 : ¬ (zJ h v).kind = 10 := by simpa using c1
  refine zN 300 ?_;refine zL (zK ?_);exact FinV.ret rfl (SubP.tup ⟨by rw [spS,if_pos c1];exact (by repeat (first | exact trivial | exact SubP.refl _ | exact SubP.nilSl rfl | refine SubP.agg ?_ | refine ⟨?_,?_⟩)),by rw [spS,if_pos c1];exact SubP.nilSl rfl,by rw [spS,if_pos c1];exact SubP.refl _,trivial⟩)
 ·replace c1 : (zJ h v).kind = 10 := by simpa using c1
  have hob := qA (h := h) (v := v) (by omega);have hin := inst_cls g c1;have hrv := fun hk => fd_rv hh g hin s hk;refine zO (zA ?_);refine zB (zE zP [] 400 rfl ?_);repeat (first | refine zG ?_ | refine zH ?_ | refine zV (by exact yB hob.2.1) ?_)
  refine zC (zA ?_);refine yN [2,3,4,6] [0,1,2] 410 [(9,.v (.int .i64 (zJ h v).cls))] [] ?_;refine ⟨⟨⟨Sub.int (by rw [hob.2.2]),by repeat (first | exact trivial | exact Sub.refl _ | refine ⟨?_,?_⟩)⟩,yM,rfl,rfl⟩,?_⟩;refine zB (zE zP [] 500 rfl ?_);refine zF ?_;refine zQ _ (jW h (zJ h v).cls s hh hin (cok_of hh g hin)) rfl ?_;refine zF ?_;refine zC (zA (zB (zN 600 ?_)));refine zS rfl (fun c5 => ?_) (fun c5 => ?_)
  ·replace c5 : (fdO h (zW h (zJ h v).cls).order s).isSome = false := by simpa using c5
   refine zN 700 ?_;refine zL (zK ?_);exact FinV.ret rfl (SubP.tup ⟨by rw [spS,if_neg (not_not_intro c1),if_pos c5];exact (by repeat (first | exact trivial | exact SubP.refl _ | exact SubP.nilSl rfl | refine SubP.agg ?_ | refine ⟨?_,?_⟩)),by rw [spS,if_neg (not_not_intro c1),if_pos c5];exact SubP.nilSl rfl,by rw [spS,if_neg (not_not_intro c1),if_pos c5];exact SubP.refl _,trivial⟩)
  ·replace c5 : (fdO h (zW h (zJ h v).cls).order s).isSome = true := by simpa using c5
   refine zO (zA (zB ?_));refine zB (zE zP [] 800 rfl ?_);refine zF ?_;refine zQ _ (yJ h (fdV h s (fdO h (zW h (zJ h v).cls).order s)) hrv) rfl ?_;refine zF ?_;refine zC (zA (zU ?_));refine zB (zE zP [] 900 rfl ?_);refine zF ?_;refine zQ _ (uX h (fdV h s (fdO h (zW h (zJ h v).cls).order s)) hrv) rfl ?_;refine zF ?_;refine zC (zA (zS rfl (fun c8 => ?_) (fun c8 => ?_)))
   ·
    refine zB (zT zP [] [[],[],[1],[0],[0,1,2,3],(rgN 5)] 1000 yP (by kernel_rfl) rfl ?_);refine zF ?_;refine zC (zA (zL (zM (zK ?_))));exact FinV.ret rfl (SubP.tup ⟨by rw [spS,if_neg (not_not_intro c1),if_neg (by rw [c5];decide),if_pos c8];exact SubP.refl _,by rw [spS,if_neg (not_not_intro c1),if_neg (by rw [c5];decide),if_pos c8];exact SubP.slrSl rfl,by rw [spS,if_neg (not_not_intro c1),if_neg (by rw [c5];decide),if_pos c8];exact SubP.refl _,trivial⟩)
   ·
    refine zN 1100 ?_;refine zZ (fun c10 => ?_) (fun c10 => ?_)
    ·
     refine zB (zE zP [] 1200 rfl ?_);repeat (first | refine zG ?_ | refine zH ?_ | refine zV (by exact ⟨by omega,obj_item g (Or.inl c10)⟩) ?_)
     refine zC (zA (zL (zM (zK ?_))));exact FinV.ret rfl (SubP.tup ⟨by rw [spS,if_neg (not_not_intro c1),if_neg (by rw [c5];decide),if_neg (by rw [c8];decide),if_pos c10];exact SubP.refl _,by rw [spS,if_neg (not_not_intro c1),if_neg (by rw [c5];decide),if_neg (by rw [c8];decide),if_pos c10];exact SubP.nilSl rfl,by rw [spS,if_neg (not_not_intro c1),if_neg (by rw [c5];decide),if_neg (by rw [c8];decide),if_pos c10];exact SubP.refl _,trivial⟩)
    ·
     refine zN 1300 ?_;refine zZ (fun c12 => ?_) (fun c12 => ?_)
     ·
      refine zB (zT zP [] mK16 1400 yP (by kernel_rfl) rfl ?_);repeat (first | refine zG ?_ | refine zH ?_ | refine zV (by exact ⟨by omega,obj_item g (Or.inr c12)⟩) ?_)
      refine zQ _ (qI _) rfl ?_;repeat (first | refine zG ?_ | refine zH ?_ | refine zV (by exact ⟨by omega,obj_item g (Or.inr c12)⟩) ?_)
      refine zC (zA (zL (zM (zK ?_))));exact FinV.ret rfl (SubP.tup ⟨by rw [spS,if_neg (not_not_intro c1),if_neg (by rw [c5];decide),if_neg (by rw [c8];decide),if_neg (by omega),if_pos c12];exact SubP.refl _,by rw [spS,if_neg (not_not_intro c1),if_neg (by rw [c5];decide),if_neg (by rw [c8];decide),if_neg (by omega),if_pos c12];exact SubP.slrSl rfl,by rw [spS,if_neg (not_not_intro c1),if_neg (by rw [c5];decide),if_neg (by rw [c8];decide),if_neg (by omega),if_pos c12];exact SubP.refl _,trivial⟩)
     ·
      refine zO (zR (zA (zN 1500 ?_)));refine zL ?_;exact FinV.ret rfl (SubP.tup ⟨by rw [spS,if_neg (not_not_intro c1),if_neg (by rw [c5];decide),if_neg (by rw [c8];decide),if_neg (by omega),if_neg (by omega)];exact SubP.refl _,by rw [spS,if_neg (not_not_intro c1),if_neg (by rw [c5];decide),if_neg (by rw [c8];decide),if_neg (by omega),if_neg (by omega)];exact SubP.nilSl rfl,by rw [spS,if_neg (not_not_intro c1),if_neg (by rw [c5];decide),if_neg (by rw [c8];decide),if_neg (by omega),if_neg (by omega)];exact SubP.refl _,trivial⟩)
theorem atSpecial_ok (h : List Ob) (v : Vl) (s : ByteArray) (l : List Vl) (hh : HpIn h) (g : Uh h) (hv : v.k = 6 → yD h v.r = true) (hl : l.length ≤ 1000000) : Fn Tryz.prog 36 [hpD md h,.agg (vlD v),.v (.string s),vsD l] (.tup [.agg (stD (caS (spS h v s).1 ((spS h v s).2.1 ++ l))),.v (.bool (spS h v s).2.2)]) := by
 refine yQ zP Tryz.func36 rfl rfl rfl rfl rfl rfl ?_;intro w0 s0 mx;refine zN 100 ?_;refine zB (zE zP [] 200 rfl ?_);refine zF ?_;refine zQ _ (Special_ok _ _ _ (by first | assumption | omega | (simp_all;done)) (by first | assumption | omega | (simp_all;done)) (by first | assumption | omega | (simp_all;done))) rfl ?_;refine zF ?_;refine zC (zA ?_);refine zB (zT zP [25] mK19 300 yP (by kernel_rfl) rfl ?_);refine zF ?_;refine jH _ _ _ ((cH [(spS h v s).2.1,l] (by have := bW0 h v s;rw [dH0,List.length_append];omega) (by show 2 ≤ 1000;omega)).args ⟨SubP.slrSl rfl,trivial⟩) ?_;refine zF ?_;refine zQ _ ((xY _ ((spS h v s).2.1 ++ l)).args ⟨SubP.refl _,SubP.ownSl (by simp [ctL]),trivial⟩) rfl ?_;refine zF ?_;refine zC (zA (zL ?_));exact FinV.ret rfl (SubP.refl _)
theorem hasC_ok (h : List Ob) (v : Vl) (s : ByteArray) (hh : HpIn h) (g : Uh h) (hv : v.k = 6 → yD h v.r = true) : Fn Tryz.prog 121 [.v (.string s),cpD md h,vqD v] (.v (.bool (!(spS h v s).2.2))) := by
 refine yQ zP Tryz.func121 rfl rfl rfl rfl rfl rfl ?_;intro w0 s0 mx;refine zN 100 ?_;refine zB (zE zP [] 200 rfl ?_);refine zF ?_;refine zQ _ (Special_ok h v s hh g hv) rfl ?_;refine zF ?_;refine zC (zA (zN 300 ?_));refine zL ?_;exact FinV.ret rfl (SubP.refl _)
theorem has_ok (h : List Ob) (v : Vl) (l : List ByteArray) (hh : HpIn h) (g : Uh h) (hv : v.k = 6 → yD h v.r = true) : Fn Tryz.prog 97 [hpD md h,.agg (vlD v),.sl me 1 l sD ByteArray.empty] (.v (.bool (l.all fun s => (spS h v s).2.2))) := by
 refine yQ zP Tryz.func97 rfl rfl rfl rfl rfl rfl ?_;intro w0 s0 mx;refine zN 100 ?_;refine zB (zE zP [] 200 rfl ?_);refine zF ?_;refine yI _ (xH h v l (fun s => !(spS h v s).2.2) 121 fun x _ => hasC_ok h v x hh g hv) rfl rfl ?_;refine zF ?_;refine zC (zA (zL ?_));exact FinV.ret rfl (SubP.bool (mD0 _ _))
theorem pV {P : Program} {K : DS → Prop} {p : Prop} {r : Out} (hr : r.sat P K) (hp : p := by first | (simp only [ByteArray.size_append,kbs,List.size_toArray,List.length_cons,List.length_nil];omega) | first | exact trivial | omega | exact ini (by omega) (by omega) | (intro hh;simp at hh;exact ini (by omega) (by omega)) | (intro hh;simp at hh ⊢;omega) | (simp at *;omega) | (simp_all;done)) : (Out.need p r).sat P K := ⟨hp,hr⟩
theorem atLacks_ok (h : List Ob) (v : Vl) (s : ByteArray) (g : Uh h) (c : Cf h v) (hs : s.size ≤ 2000000) (h9 : ¬ (zJ h v).kind = 9) (h11 : ¬ (zJ h v).kind = 11) : Fn Tryz.prog 43 [hpD md h,.agg (vlD v),.v (.string s)] (.agg (stD (lkS h v s))) := by
 have hz := xV;have hnz := nm_sz g (clA_in g c);refine yQ zP Tryz.func43 rfl rfl rfl rfl rfl rfl ?_;intro w0 s0 mx;refine zB (zE zP [] 100 rfl ?_);repeat (first | refine zG ?_ | refine zH ?_ | refine pV ?_)
 refine zC (zA ?_);refine zB (zE zP [] 200 rfl ?_);repeat (first | refine zG ?_ | refine zH ?_ | refine pV ?_)
 refine zQ _ (heapName_ok h v g c) rfl ?_;repeat (first | refine zG ?_ | refine zH ?_ | refine pV ?_)
 refine zQ _ (yX _) rfl ?_;repeat (first | refine zG ?_ | refine zH ?_ | refine pV ?_)
 refine zC (zA (zL ?_));rw [show lkS h v s = raS 36 (qB ++ (zW h (clA h v)).name ++ nhB ++ s ++ qB) by unfold lkS whoS;rw [if_neg h9,if_neg h11]];exact FinV.ret rfl (SubP.refl _)
theorem tA0 {P : Program} {K : DS → Prop} {p : Prop} {r : Out} (hr : r.sat P K) (hp : p := by first | exact ⟨by decide,obj_item g (.inl c4)⟩ | exact ⟨rfl,obj_item g (.inl c4)⟩ | first | exact trivial | omega | exact ini (by omega) (by omega) | (intro hh;simp at hh;exact ini (by omega) (by omega)) | (intro hh;simp at hh ⊢;omega) | (simp at *;omega) | (simp_all;done)) : (Out.need p r).sat P K := ⟨hp,hr⟩
theorem dU0 {P : Program} {K : DS → Prop} {p : Prop} {r : Out} (hr : r.sat P K) (hp : p := by first | exact ⟨by decide,obj_item g (.inr c6)⟩ | exact ⟨rfl,obj_item g (.inr c6)⟩ | first | exact trivial | omega | exact ini (by omega) (by omega) | (intro hh;simp at hh;exact ini (by omega) (by omega)) | (intro hh;simp at hh ⊢;omega) | (simp at *;omega) | (simp_all;done)) : (Out.need p r).sat P K := ⟨hp,hr⟩
theorem qG {T : List (Nat × TI)} {rs : List ResultVar} {n0 : Nat} {out d : D} {own' : List DOwn} {S : DS} (hk : Nat.ble n0 2 = true := by rfl) (h : finH T S rs = some d := by rfl) (hs : Sub d (out.ren (qF (iota n0) 2)) := by exact Sub.ofP (SubP.agg (SubPs.refl _)) rfl rfl) (ho : kQ (iota n0) 2 S.ow 0 own' := by exact ⟨⟨rfl,Sub.mo rfl,rfl,trivial⟩,SubO.mp rfl,trivial⟩) : FinH T rs n0 out own' .ret S := FinH.ret 2 hk h hs ho
theorem bound_G (h : List Ob) (a v : Vl) (c : Int) (hh : HpIn h) (g : Uh h) (ha : a.k = 6 → yD h a.r = true) (hia : VlIn a) (hiv : VlIn v) (hc : inH h c) : FnG Tryz.prog 66 [.bp 0 0,.agg (vlD a),.agg (vlD v),.v (.int .i64 c)] (hpO h) (.agg (stD (bdS h a v c true).1)) (hpO (bdS h a v c true).2) := by
 have hg5 := g.hi;obtain ⟨R,hR⟩ : ∃ R,R = bdS h a v c true := ⟨_,rfl⟩;rw [← hR];refine jJ zP Tryz.func66 rfl rfl rfl rfl rfl rfl rfl ?_;intro w0 s0 mx;refine zN 100 ?_;refine zB ?_;refine zB (zT zP [] mK1 200 yP (by kernel_rfl) rfl ?_);refine zF ?_;refine yI _ (yJ h a ha) rfl rfl ?_;refine zF ?_;refine zC (zA (zU ?_));refine yN [0,3,5,6,8,9] [0,1,2,3,4,105] 210 [] [(105,.box 36 (obD (zJ h a)))] ?_;refine ⟨⟨yR,⟨⟨rfl,SubL.same rfl⟩,yM⟩,rfl,rfl⟩,?_⟩;refine zB (zT zP [] mK3 300 yP (by kernel_rfl) rfl ?_);refine zF ?_;refine yI _ (uX h a ha) rfl rfl ?_;refine zF ?_;refine zC (zA (zS rfl (fun c2 => ?_) (fun c2 => ?_)))
 ·have c2 : uG h a = true := by simpa using c2
  refine zB (zE zP [1026] 400 rfl ?_);refine zF ?_;refine yS _ _ (jS h a v (by omega) hia hiv) rfl ?_;refine zF ?_;refine zC (zA (zL (zM (zK ?_))));have hn : R = newS h (mtO a v) := by
   rw [hR];unfold bdS;rw [if_pos (by rw [c2];rfl)]
  subst hn;exact qG
 ·have c2 : uG h a = false := by simpa using c2
  refine zN 500 ?_;refine zZ (fun c4 => ?_) (fun c4 => ?_)
  ·
   refine zB (zE zP [] 600 rfl ?_);repeat (first | refine zG ?_ | refine zH ?_ | refine tA0 ?_)
   refine zQ _ (yW _) rfl ?_;repeat (first | refine zG ?_ | refine zH ?_ | refine tA0 ?_)
   refine zC (zA (zL (zM (zK ?_))));have hn : R = (vlS ((zJ h a).items.getD 0 vl0),h) := by
    rw [hR];unfold bdS;rw [if_neg (by rw [c2];decide),if_pos c4]
   subst hn;exact qG
  ·
   refine zN 700 ?_;refine zZ (fun c6 => ?_) (fun c6 => ?_)
   ·
    refine zB (zT zP [1047] mK5 800 yP (by kernel_rfl) rfl ?_);repeat (first | refine zG ?_ | refine zH ?_ | refine dU0 ?_)
    refine zQ _ (qI _) rfl ?_;repeat (first | refine zG ?_ | refine zH ?_ | refine dU0 ?_)
    refine yS _ _ (jS h ((zJ h a).items.getD 0 vl0) (rfV c) (by omega) (wY (gc_obj g hh a) 0).1.vin (qK0 hc (by omega)).1.vin) rfl ?_;repeat (first | refine zG ?_ | refine zH ?_ | refine dU0 ?_)
    refine zC (zA (zL (zM (zK ?_))));have hn : R = newS h (mtO ((zJ h a).items.getD 0 vl0) (rfV c)) := by
     rw [hR];unfold bdS;rw [if_neg (by rw [c2];decide),if_neg c4,if_pos c6]
    subst hn;exact qG
   ·
    refine zB (zT zP [] mK2 900 yP (by kernel_rfl) rfl ?_);refine zF ?_;refine yI _ ((has_ok h a [onR] hh g ha).args ⟨SubP.refl _,SubP.refl _,SubP.slrSl (m := false) rfl,trivial⟩) rfl rfl ?_;refine zF ?_;refine zC (zA (zS rfl (fun c8 => ?_) (fun c8 => ?_)))
    ·have c8w : (spS h a onR).2.2 = true := by simpa using c8
     refine zB (zT zP [] mK6 1000 yP (by kernel_rfl) rfl ?_);refine zF ?_;refine zQ _ (qI _) rfl ?_;refine zF ?_;refine yI _ ((atSpecial_ok h a onR [v,rfV c] hh g ha (by show 2 ≤ 1000000;decide)).args ⟨SubP.refl _,SubP.refl _,SubP.refl _,SubP.slrSl (m := false) rfl,trivial⟩) rfl rfl ?_;refine zF ?_;refine zC (zA (zN 1100 ?_));refine zL (zM (zK ?_));have hn : R = (caS (spS h a onR).1 ((spS h a onR).2.1 ++ [v,rfV c]),h) := by
      rw [hR];unfold bdS;rw [if_neg (by rw [c2];decide),if_neg c4,if_neg c6,if_pos c8w];rfl
     subst hn;exact qG
    ·have c8w : (spS h a onR).2.2 = false := by simpa using c8
     refine zO (zR (zA ?_));refine zB (zE zP [] 1200 rfl ?_);refine zF ?_;refine zQ _ (yW _) rfl ?_;refine zF ?_;refine zC (zA (zL ?_));have hn : R = (vlS a,h) := by
      rw [hR];unfold bdS;rw [if_neg (by rw [c2];decide),if_neg c4,if_neg c6,if_neg (by rw [c8w];decide)]
     subst hn;exact qG
theorem bZ0 {P : Program} {K : DS → Prop} {p : Prop} {r : Out} (hr : r.sat P K) (hp : p := by first | exact ⟨by decide,obj_item g (.inl c2)⟩ | exact ⟨rfl,obj_item g (.inl c2)⟩ | first | exact trivial | omega | exact ini (by omega) (by omega) | (intro hh;simp at hh;exact ini (by omega) (by omega)) | (intro hh;simp at hh ⊢;omega) | (simp at *;omega) | (simp_all;done)) : (Out.need p r).sat P K := ⟨hp,hr⟩
theorem dT0 {P : Program} {K : DS → Prop} {p : Prop} {r : Out} (hr : r.sat P K) (hp : p := by first | exact ⟨by decide,obj_item g (.inr c4)⟩ | exact ⟨rfl,obj_item g (.inr c4)⟩ | first | exact trivial | omega | exact ini (by omega) (by omega) | (intro hh;simp at hh;exact ini (by omega) (by omega)) | (intro hh;simp at hh ⊢;omega) | (simp at *;omega) | (simp_all;done)) : (Out.need p r).sat P K := ⟨hp,hr⟩
theorem ofClass_G (h : List Ob) (a : Vl) (c : Int) (hh : HpIn h) (g : Uh h) (ha : a.k = 6 → yD h a.r = true) (hia : VlIn a) (hc : inH h c) : FnG Tryz.prog 62 [.bp 0 0,.agg (vlD a),.v (.int .i64 c)] (hpO h) (.agg (stD (bdS h a vl0 c false).1)) (hpO (bdS h a vl0 c false).2) := by
 have hg5 := g.hi;obtain ⟨R,hR⟩ : ∃ R,R = bdS h a vl0 c false := ⟨_,rfl⟩;rw [← hR];refine jJ zP Tryz.func62 rfl rfl rfl rfl rfl rfl rfl ?_;intro w0 s0 mx;refine zN 100 ?_;refine zB ?_;refine zB (zT zP [] mK1 200 yP (by kernel_rfl) rfl ?_);refine zF ?_;refine yI _ (yJ h a ha) rfl rfl ?_;refine zF ?_;refine zC (zA (zU ?_));refine yN [0,2,4,6,7] [0,1,2,3,105] 210 [] [(105,.box 36 (obD (zJ h a)))] ?_;refine ⟨⟨yR,⟨⟨rfl,SubL.same rfl⟩,yM⟩,rfl,rfl⟩,?_⟩;refine zN 300 ?_;refine zZ (fun c2 => ?_) (fun c2 => ?_)
 ·
  refine zB (zE zP [] 400 rfl ?_);repeat (first | refine zG ?_ | refine zH ?_ | refine bZ0 ?_)
  refine zQ _ (yW _) rfl ?_;repeat (first | refine zG ?_ | refine zH ?_ | refine bZ0 ?_)
  refine zC (zA (zL (zM (zK ?_))));have hn : R = (vlS ((zJ h a).items.getD 0 vl0),h) := by
   rw [hR];unfold bdS;rw [if_neg (by simp),if_pos c2]
  subst hn;exact qG
 ·
  refine zN 500 ?_;refine zZ (fun c4 => ?_) (fun c4 => ?_)
  ·
   refine zB (zT zP [1035] mK5 600 yP (by kernel_rfl) rfl ?_);repeat (first | refine zG ?_ | refine zH ?_ | refine dT0 ?_)
   refine zQ _ (qI _) rfl ?_;repeat (first | refine zG ?_ | refine zH ?_ | refine dT0 ?_)
   refine yS _ _ (jS h ((zJ h a).items.getD 0 vl0) (rfV c) (by omega) (wY (gc_obj g hh a) 0).1.vin (qK0 hc (by omega)).1.vin) rfl ?_;repeat (first | refine zG ?_ | refine zH ?_ | refine dT0 ?_)
   refine zC (zA (zL (zM (zK ?_))));have hn : R = newS h (mtO ((zJ h a).items.getD 0 vl0) (rfV c)) := by
    rw [hR];unfold bdS;rw [if_neg (by simp),if_neg c2,if_pos c4]
   subst hn;exact qG
  ·
   refine zB (zT zP [] mK2 700 yP (by kernel_rfl) rfl ?_);refine zF ?_;refine yI _ ((has_ok h a [onR] hh g ha).args ⟨SubP.refl _,SubP.refl _,SubP.slrSl (m := false) rfl,trivial⟩) rfl rfl ?_;refine zF ?_;refine zC (zA (zS rfl (fun c6 => ?_) (fun c6 => ?_)))
   ·have c6w : (spS h a onR).2.2 = true := by simpa using c6
    refine zB (zT zP [] mK6 800 yP (by kernel_rfl) rfl ?_);refine zF ?_;refine zQ _ (qI _) rfl ?_;refine zF ?_;refine yI _ ((atSpecial_ok h a onR [vl0,rfV c] hh g ha (by show 2 ≤ 1000000;decide)).args ⟨SubP.refl _,SubP.refl _,SubP.refl _,SubP.slrRows (by repeat (first | exact trivial | exact SubPs.refl _ | exact SubP.refl _ | exact SubP.nilSl rfl | refine ⟨?_,?_⟩)),trivial⟩) rfl rfl ?_;refine zF ?_;refine zC (zA (zN 900 ?_));refine zL (zM (zK ?_));have hn : R = (caS (spS h a onR).1 ((spS h a onR).2.1 ++ [vl0,rfV c]),h) := by
     rw [hR];unfold bdS;rw [if_neg (by simp),if_neg c2,if_neg c4,if_pos c6w];rfl
    subst hn;exact qG
   ·have c6w : (spS h a onR).2.2 = false := by simpa using c6
    refine zO (zR (zA ?_));refine zB (zE zP [] 1000 rfl ?_);refine zF ?_;refine zQ _ (yW _) rfl ?_;refine zF ?_;refine zC (zA (zL ?_));have hn : R = (vlS a,h) := by
     rw [hR];unfold bdS;rw [if_neg (by simp),if_neg c2,if_neg c4,if_neg (by rw [c6w];decide)]
    subst hn;exact qG
theorem gB0 {P : Program} {K : DS → Prop} {p : Prop} {r : Out} (hr : r.sat P K) (hp : p := by first | exact ⟨hin.1,hin.2⟩ | exact ⟨rfl,hin.2⟩ | exact ⟨by simp [MR.len],by simpa [MR.len] using hin.2⟩ | rfl | (simp only [MR.len];done) | first | exact trivial | omega | exact ini (by omega) (by omega) | (intro hh;simp at hh;exact ini (by omega) (by omega)) | (intro hh;simp at hh ⊢;omega) | (simp at *;omega) | (simp_all;done)) : (Out.need p r).sat P K := ⟨hp,hr⟩
theorem WithT_G (h : List Ob) (v a : Vl) (s : ByteArray) (hh : HpIn h) (g : Uh h) (hk : (zJ h v).kind = 10) (hv : hasS h v = true) (ha : a.k = 6 → yD h a.r = true) (hia : VlIn a) (hiv : VlIn v) (hs : s.size ≤ 100) : FnG Tryz.prog 58 [.bp 0 0,.agg (vlD v),.v (.string s),.agg (vlD a),.v (.bool true)] (hpO h) (.agg (stD (wiS h v s a true).1)) (hpO (wiS h v s a true).2) := by
 have hg5 := g.hi;obtain ⟨R,hR⟩ : ∃ R,R = wiS h v s a true := ⟨_,rfl⟩;rw [← hR];obtain ⟨h6,hob,eo⟩ := qA (h := h) (v := v) (by omega);have hin := yB hob;have hcin := inst_cls g hk;have hvr : v.k = 6 → yD h v.r = true := fun _ => hob;refine jJ zP Tryz.func58 rfl rfl rfl rfl rfl rfl rfl ?_;intro w0 s0 mx;refine zN 100 ?_;refine zB (zT zP [] mK7 200 yP (by kernel_rfl) rfl ?_);repeat (first | refine zG ?_ | refine zH ?_ | refine gB0 ?_)
 refine zC (zA (zB ?_));refine yN [0,2,4,6,8,10,11] [0,1,2,3,4,108] 210 [] [(108,.box 36 (obD (zJ h v)))] ?_;refine ⟨⟨yR,⟨⟨rfl,by rw [eo];exact SubL.same rfl⟩,yM⟩,rfl,rfl⟩,?_⟩;refine zB (zT zP [] mK1 300 yP (by kernel_rfl) rfl ?_);refine zF ?_;refine yI _ (yJ h a ha) rfl rfl ?_;refine zF ?_;refine zC (zA ?_);refine yN [0,2,4,6,8,10,11,12] [0,1,2,3,4,108,215] 310 [] [(215,.box 36 (obD (zJ h a)))] ?_;refine ⟨⟨yR,⟨⟨rfl,SubL.same rfl⟩,yM⟩,rfl,rfl⟩,?_⟩;refine zN 400 ?_;refine zS rfl (fun c3 => ?_) (fun c3 => ?_)
 ·have c3w : (zJ h a).kind = 12 := by simpa using c3
  refine zB (zE zP [] 500 rfl ?_);refine zF ?_;refine zQ _ (kZ (zJ h a) v s (by rw [prop_item g c3w];decide) (by omega)) rfl ?_;refine zF ?_;refine zC (zA (zL (zK ?_)));have hn : R = (gtS (zJ h a) v s,h) := by
   rw [hR];unfold wiS;rw [if_pos ⟨rfl,c3w⟩]
  subst hn;exact qG
 ·have c3w : ¬ (zJ h a).kind = 12 := by simpa using c3
  refine zO (zA (zB ?_));refine zB (zT zP [] mK8 600 yP (by kernel_rfl) rfl ?_);repeat (first | refine zG ?_ | refine zH ?_ | refine uE ?_ | refine pL ?_ | refine pM ?_)
  refine vK0 _ (fun hg7 => (has_ok h a [onR,onW] hh g ha).args ⟨SubP.refl _,SubP.refl _,SubP.slrSl (m := false) rfl,trivial⟩) rfl rfl ?_;repeat (first | refine zG ?_ | refine zH ?_ | refine uE ?_ | refine pL ?_ | refine pM ?_)
  refine zC (zA (zS rfl (fun c5 => ?_) (fun c5 => ?_)))
  ·have c5w : (spS h a onR).2.2 = true ∧ (spS h a onW).2.2 = true := by simpa using c5
   refine zB (zE zP [1054] 700 rfl ?_);refine zF ?_;refine yS _ _ (bound_G h a v (zJ h v).cls hh g ha hia hiv hcin) rfl ?_;refine zF ?_;refine zC (zA (zL (zK ?_)));have hn : R = bdS h a v (zJ h v).cls true := by
    rw [hR];unfold wiS;rw [if_neg (fun hh9 => c3w hh9.2),if_pos ⟨rfl,c5w⟩]
   subst hn;exact qG
  ·have c5w : ¬ ((spS h a onR).2.2 = true ∧ (spS h a onW).2.2 = true) := by simpa using c5
   refine zO (zA (zB ?_));refine zB (zE zP [] 800 rfl ?_);refine zF ?_;refine zQ _ (vE (zJ h v) s (obj_names g v)) rfl ?_;refine zF ?_;refine zC (zA (zN 900 ?_));refine zS rfl (fun c8 => ?_) (fun c8 => ?_)
   ·have c8w : jC (zJ h v) s = true := by simpa using c8
    refine zB (zE zP [] 1000 rfl ?_);refine zF ?_;refine zQ _ (yW _) rfl ?_;refine zF ?_;refine zC (zA (zL (zK ?_)));have hn : R = (vlS (jF (zJ h v) s),h) := by
     rw [hR];unfold wiS;rw [if_neg (fun hh9 => c3w hh9.2),if_neg (fun hh9 => c5w hh9.2),if_pos c8w]
    subst hn;exact qG
   ·have c8w : jC (zJ h v) s = false := by simpa using c8
    refine zO (zA (zB (zN 1100 ?_)));refine dD rfl ?_;refine zB (zE zP [1070] 1200 rfl ?_);refine zF ?_;refine yS _ _ (bound_G h a v (zJ h v).cls hh g ha hia hiv hcin) rfl ?_;refine zF ?_;refine zC (zA (zL (zK ?_)));have hn : R = bdS h a v (zJ h v).cls true := by
     rw [hR];unfold wiS;rw [if_neg (fun hh9 => c3w hh9.2),if_neg (fun hh9 => c5w hh9.2),if_neg (by rw [c8w];decide),if_pos rfl]
    subst hn;exact qG
theorem WithF_G (h : List Ob) (v a : Vl) (s : ByteArray) (hh : HpIn h) (g : Uh h) (hk : (zJ h v).kind = 10) (hv : hasS h v = true) (ha : a.k = 6 → yD h a.r = true) (hia : VlIn a) (hiv : VlIn v) (hs : s.size ≤ 100) : FnG Tryz.prog 58 [.bp 0 0,.agg (vlD v),.v (.string s),.agg (vlD a),.v (.bool false)] (hpO h) (.agg (stD (wiS h v s a false).1)) (hpO (wiS h v s a false).2) := by
 have hg5 := g.hi;obtain ⟨R,hR⟩ : ∃ R,R = wiS h v s a false := ⟨_,rfl⟩;rw [← hR];obtain ⟨h6,hob,eo⟩ := qA (h := h) (v := v) (by omega);have hin := yB hob;have hcin := inst_cls g hk;have hvr : v.k = 6 → yD h v.r = true := fun _ => hob;refine jJ zP Tryz.func58 rfl rfl rfl rfl rfl rfl rfl ?_;intro w0 s0 mx;refine zN 100 ?_;refine zB (zT zP [] mK7 200 yP (by kernel_rfl) rfl ?_);repeat (first | refine zG ?_ | refine zH ?_ | refine gB0 ?_)
 refine zC (zA (zB ?_));refine yN [0,2,4,6,8,10,11] [0,1,2,3,4,108] 210 [] [(108,.box 36 (obD (zJ h v)))] ?_;refine ⟨⟨yR,⟨⟨rfl,by rw [eo];exact SubL.same rfl⟩,yM⟩,rfl,rfl⟩,?_⟩;refine zB (zT zP [] mK1 300 yP (by kernel_rfl) rfl ?_);refine zF ?_;refine yI _ (yJ h a ha) rfl rfl ?_;refine zF ?_;refine zC (zA ?_);refine yN [0,2,4,6,8,10,11,12] [0,1,2,3,4,108,215] 310 [] [(215,.box 36 (obD (zJ h a)))] ?_;refine ⟨⟨yR,⟨⟨rfl,SubL.same rfl⟩,yM⟩,rfl,rfl⟩,?_⟩;refine zN 400 ?_;refine wD rfl ?_;refine zO (zA (zB ?_));refine zB (zT zP [] mK8 600 yP (by kernel_rfl) rfl ?_);repeat (first | refine zG ?_ | refine zH ?_ | refine uE ?_ | refine pL ?_ | refine pM ?_)
 refine yP0 (.v (.bool false)) rfl ?_;repeat (first | refine zG ?_ | refine zH ?_ | refine uE ?_ | refine pL ?_ | refine pM ?_)
 refine zC (zA ?_);refine wD rfl ?_;refine zO (zA (zB ?_));refine zB (zE zP [] 800 rfl ?_);refine zF ?_;refine zQ _ (vE (zJ h v) s (obj_names g v)) rfl ?_;refine zF ?_;refine zC (zA (zN 900 ?_));refine zS rfl (fun c8 => ?_) (fun c8 => ?_)
 ·have c8w : jC (zJ h v) s = true := by simpa using c8
  refine zB (zE zP [] 1000 rfl ?_);refine zF ?_;refine zQ _ (yW _) rfl ?_;refine zF ?_;refine zC (zA (zL (zK ?_)));have hn : R = (vlS (jF (zJ h v) s),h) := by
   rw [hR];unfold wiS;rw [if_neg (fun hh9 => by cases hh9.1),if_neg (fun hh9 => by cases hh9.1),if_pos c8w]
  subst hn;exact qG
 ·have c8w : jC (zJ h v) s = false := by simpa using c8
  refine zO (zA (zB (zN 1100 ?_)));refine wD rfl ?_;refine zO (zA (zB ?_));refine zB (zT zP [] mK20 1300 yP (by kernel_rfl) rfl ?_);refine zF ?_;refine zQ _ (qN _) rfl ?_;refine zF ?_;refine yI _ ((atSpecial_ok h v onM [txV s] hh g hvr (by show 1 ≤ 1000000;decide)).args ⟨SubP.refl _,SubP.refl _,SubP.refl _,SubP.slrSl (m := false) rfl,trivial⟩) rfl rfl ?_;refine zF ?_;refine zC (zA (zN 1400 ?_));refine zS rfl (fun c13 => ?_) (fun c13 => ?_)
  ·have c13w : (spS h v onM).2.2 = true := by simpa using c13
   refine zN 1500 ?_;refine zL (zK ?_);have hn : R = (caS (spS h v onM).1 ((spS h v onM).2.1 ++ [txV s]),h) := by
    rw [hR];unfold wiS;rw [if_neg (fun hh9 => by cases hh9.1),if_neg (fun hh9 => by cases hh9.1),if_neg (by rw [c8w];decide),if_neg (by decide),if_pos c13w]
   subst hn;exact qG
  ·have c13w : (spS h v onM).2.2 = false := by simpa using c13
   refine zO (zA ?_);refine zB (zT zP [] mK2 1600 yP (by kernel_rfl) rfl ?_);refine zF ?_;refine yI _ (atLacks_ok h v s g (cf_of g hv) (by omega) (by omega) (by omega)) rfl rfl ?_;refine zF ?_;refine zC (zA (zL ?_));have hn : R = (lkS h v s,h) := by
    rw [hR];unfold wiS;rw [if_neg (fun hh9 => by cases hh9.1),if_neg (fun hh9 => by cases hh9.1),if_neg (by rw [c8w];decide),if_neg (by decide),if_neg (by rw [c13w];decide)]
   subst hn;exact qG
theorem With_G (h : List Ob) (v a : Vl) (s : ByteArray) (ok : Bool) (hh : HpIn h) (g : Uh h) (hk : (zJ h v).kind = 10) (hv : hasS h v = true) (ha : a.k = 6 → yD h a.r = true) (hia : VlIn a) (hiv : VlIn v) (hs : s.size ≤ 100) : FnG Tryz.prog 58 [.bp 0 0,.agg (vlD v),.v (.string s),.agg (vlD a),.v (.bool ok)] (hpO h) (.agg (stD (wiS h v s a ok).1)) (hpO (wiS h v s a ok).2) := by
 cases ok
 ·exact WithF_G h v a s hh g hk hv ha hia hiv hs
 ·exact WithT_G h v a s hh g hk hv ha hia hiv hs
theorem ofInstance_G (h : List Ob) (v : Vl) (s : ByteArray) (hh : HpIn h) (g : Uh h) (hk : (zJ h v).kind = 10) (hv : hasS h v = true) (hiv : VlIn v) (hs : s.size ≤ 100) : FnG Tryz.prog 25 [.bp 0 0,.agg (vlD v),.v (.string s)] (hpO h) (.agg (stD (wiS h v s (fdV h s (fdO h (zW h (zJ h v).cls).order s)) (fdO h (zW h (zJ h v).cls).order s).isSome).1)) (hpO (wiS h v s (fdV h s (fdO h (zW h (zJ h v).cls).order s)) (fdO h (zW h (zJ h v).cls).order s).isSome).2) := by
 have hg5 := g.hi;obtain ⟨h6,hob,eo⟩ := qA (h := h) (v := v) (by omega);have hin := yB hob;have hcin := inst_cls g hk;have hfr := fun hk9 => fd_rv hh g hcin s hk9;have hfi := (gc_fd g hh (L := (zW h (zJ h v).cls).order) (fun r hr => ((cok_of hh g hcin).2 r hr).1) s).1.vin;have hfind := jW (md := true) h (zJ h v).cls s hh hcin (cok_of hh g hcin);have hwith := With_G h v (fdV h s (fdO h (zW h (zJ h v).cls).order s)) s (fdO h (zW h (zJ h v).cls).order s).isSome hh g hk hv hfr hfi hiv hs;rw [eo] at hfind hwith ⊢;refine jJ zP Tryz.func25 rfl rfl rfl rfl rfl rfl rfl ?_;intro w0 s0 mx;refine zN 100 ?_;refine zB (zT zP [] mK21 200 yP (by kernel_rfl) rfl ?_);repeat (first | refine zG ?_ | refine zH ?_ | refine gB0 ?_)
 refine yI _ (hfind) rfl rfl ?_;repeat (first | refine zG ?_ | refine zH ?_ | refine gB0 ?_)
 refine zC (zA ?_);refine zB (zE zP [1033] 300 rfl ?_);refine zF ?_;refine yS _ _ (hwith) rfl ?_;refine zF ?_;refine zC (zA (zL ?_));exact qG
theorem bY0 {P : Program} {K : DS → Prop} {p : Prop} {r : Out} (hr : r.sat P K) (hp : p := by first | (simp only [List.length_map,List.length_take];omega) | first | exact trivial | omega | exact ini (by omega) (by omega) | (intro hh;simp at hh;exact ini (by omega) (by omega)) | (intro hh;simp at hh ⊢;omega) | (simp at *;omega) | (simp_all;done)) : (Out.need p r).sat P K := ⟨hp,hr⟩
theorem atGet_G (h : List Ob) (v : Vl) (s : ByteArray) (hh : HpIn h) (g : Uh h) (hk : (zJ h v).kind = 9) (hs : s.size ≤ 100) : FnG Tryz.prog 26 [.bp 0 0,.v (.int .i64 v.r),.v (.string s)] (hpO h) (.agg (stD (clsS h v s).1)) (hpO (clsS h v s).2) := by
 have hg5 := g.hi;obtain ⟨R,hR⟩ : ∃ R,R = clsS h v s := ⟨_,rfl⟩;rw [← hR];obtain ⟨h6,hob,eo⟩ := qA (h := h) (v := v) (by omega);have hin := yB hob;have hz := xV;have hoz := obj_sz g v;have hfind := jW (md := true) h v.r s hh hin (cok_of hh g hin);rw [← eo] at hfind;have hck := cok_of hh g hin;rw [← eo] at hck;have hol := hck.1;have hfr : (fdV h s (fdO h (zJ h v).order s)).k = 6 → yD h (fdV h s (fdO h (zJ h v).order s)).r = true := fun hk9 => by rw [eo] at hk9 ⊢;exact fd_rv hh g hin s hk9
 have hfi := (gc_fd g hh (L := (zJ h v).order) (fun r hr => (hck.2 r hr).1) s).1.vin;have hrf : ∀ u ∈ (zJ h v).order.map rfV,VlIn u := fun u hu => by
  obtain ⟨r,hr,rfl⟩ := List.mem_map.1 hu;exact (qK0 (hck.2 r hr).1 (by omega)).1.vin
 refine jJ zP Tryz.func26 rfl rfl rfl rfl rfl rfl rfl ?_;intro w0 s0 mx;refine zN 100 ?_;refine zB (zE zP [] 200 rfl ?_);repeat (first | refine zG ?_ | refine zH ?_ | refine gB0 ?_)
 refine zC (zA (zB (zN 300 ?_)));refine zU ?_;refine yN [0,1,2,6,7,21] [0,1,2,107] 310 [] [(107,.box 36 (obD (zJ h v)))] ?_;refine ⟨⟨yR,⟨⟨rfl,by rw [eo];exact SubL.same rfl⟩,yM⟩,rfl,rfl⟩,?_⟩;refine zN 400 ?_;refine zS rfl (fun c3 => ?_) (fun c3 => ?_)
 ·have c3w : s = wI := of_decide_eq_true c3;refine zB (zE zP [] 500 rfl ?_);refine zF ?_;refine zQ _ (qN _) rfl ?_;refine zF ?_;refine zQ _ (yW _) rfl ?_;refine zF ?_;refine zC (zA (zL (zM (zK ?_))));have hn : R = (vlS (txV (zJ h v).name),h) := by
   rw [hR];unfold clsS;rw [if_pos c3w]
  subst hn;exact qG
 ·have c3w : ¬ s = wI := of_decide_eq_false c3;refine zN 600 ?_;refine zS rfl (fun c5 => ?_) (fun c5 => ?_)
  ·have c5w : s = ordB := of_decide_eq_true c5;refine zN 700 ?_;refine jA 8 29 7 rfl ?_;refine zB (zN 800 ?_);refine zU ?_;refine yH (ι := {k : Nat // k ≤ (zJ h v).order.length}) [0,6,31,32] [0,1,2,107] 850 (fun x => [(33,.v (.int .i64 x.1)),(8,.own 700 7 ((((zJ h v).order.take x.1).map rfV).map vlD))]) (fun x => [(700,.row 29 7 ((((zJ h v).order.take x.1).map rfV).map vlD).length)]) (fun x => (zJ h v).order.length - x.1) ⟨0,Nat.zero_le _⟩ ?_;refine ⟨⟨⟨Sub.int rfl,Sub.own rfl,yR⟩,⟨⟨rfl,rfl,rfl⟩,yM⟩,rfl,rfl⟩,fun x => ?_⟩;have hk1 : x.1 ≤ (zJ h v).order.length := x.2;refine zN 900 ?_;refine zB (zS rfl (fun c8 => ?_) (fun c8 => ?_))
   ·have hlt : x.1 < (zJ h v).order.length := by simpa using c8
    refine zO (zA (zB (zU (zN 1000 ?_))));refine zE zP [] 1100 rfl ?_;repeat (first | refine zG ?_ | refine zH ?_ | refine bY0 ?_)
    refine zQ _ (qI _) rfl ?_;repeat (first | refine zG ?_ | refine zH ?_ | refine bY0 ?_)
    refine zC (zR (zA (qC zP [] 1200 ?_)));exact zX ⟨x.1 + 1,by omega⟩ ⟨⟨Sub.int (by push_cast;rfl),Sub.own (by rw [qU hlt 0,List.map_append,List.map_append];rfl),yR⟩,⟨⟨rfl,rfl,by rw [qU hlt 0];simp⟩,yM⟩,rfl,rfl⟩ (by show (zJ h v).order.length - (x.1 + 1) < (zJ h v).order.length - x.1;omega)
   ·have hke : x.1 = (zJ h v).order.length := by
     have h9 : ¬ x.1 < (zJ h v).order.length := by simpa using c8
     omega
    refine yO (yF (yG (yC (zA ?_))));refine zB (zE zP [1046] 1300 rfl ?_);refine zF ?_;refine yS _ _ ((bE h (tuO ((zJ h v).order.map rfV)) (by omega) (bV0 (by rw [List.length_map];omega) hrf)).args ⟨Sub.refl _,Sub.ofP (SubP.agg ⟨SubP.refl _,SubP.refl _,SubP.refl _,SubP.nilSl rfl,SubP.nilSl rfl,SubP.nilSl rfl,SubP.slrSl (by rw [hke,List.take_length];rfl),SubP.nilSl rfl,SubP.refl _,SubP.refl _,trivial⟩) rfl rfl,trivial⟩) rfl ?_;refine zF ?_;refine zQ _ (qI _) rfl ?_;refine zF ?_;refine zQ _ (yW _) rfl ?_;refine zF ?_;refine zC (zA (zL (zM (zK ?_))));have hn : R = newS h (tuO ((zJ h v).order.map rfV)) := by
     rw [hR];unfold clsS;rw [if_neg c3w,if_pos c5w]
    subst hn;exact qG
  ·have c5w : ¬ s = ordB := of_decide_eq_false c5;refine zO (zR (zA (zB ?_)));refine zB (zE zP [] 1400 rfl ?_);refine zF ?_;refine yI _ (hfind) rfl rfl ?_;refine zF ?_;refine zC (zA (zN 1500 ?_));refine zS rfl (fun c14 => ?_) (fun c14 => ?_)
   ·have c14w : (fdO h (zJ h v).order s).isSome = true := by simpa using c14
    refine zB (zE zP [1063] 1600 rfl ?_);refine zF ?_;refine yS _ _ (ofClass_G h (fdV h s (fdO h (zJ h v).order s)) v.r hh g hfr hfi hin) rfl ?_;refine zF ?_;refine zC (zA (zL (zK ?_)));have hn : R = bdS h (fdV h s (fdO h (zJ h v).order s)) vl0 v.r false := by
     rw [hR];unfold clsS;rw [if_neg c3w,if_neg c5w,if_pos c14w]
    subst hn;exact qG
   ·have c14w : (fdO h (zJ h v).order s).isSome = false := by simpa using c14
    refine zO (zA ?_);refine zB (zE zP [] 1700 rfl ?_);repeat (first | refine zG ?_ | refine zH ?_ | refine pV ?_)
    refine zQ _ (yX _) rfl ?_;repeat (first | refine zG ?_ | refine zH ?_ | refine pV ?_)
    refine zC (zA (zL ?_));have hn : R = (raS 36 (cqB ++ (zJ h v).name ++ nhB ++ s ++ qB),h) := by
     rw [hR];unfold clsS;rw [if_neg c3w,if_neg c5w,if_neg (by rw [c14w];decide),lkS,whoS,if_pos hk]
    subst hn;exact qG
theorem bX0 {P : Program} {K : DS → Prop} {p : Prop} {r : Out} (hr : r.sat P K) (hp : p := by first | exact ⟨by rw [← hCt];exact hsin.1,by rw [← hCt];exact hsin.2⟩ | exact ⟨hsin.1,hsin.2⟩ | exact ⟨rfl,hsin.2⟩ | exact ⟨by simp [MR.len],by simpa [MR.len] using hsin.2⟩ | rfl | (simp only [MR.len];done) | first | exact trivial | omega | exact ini (by omega) (by omega) | (intro hh;simp at hh;exact ini (by omega) (by omega)) | (intro hh;simp at hh ⊢;omega) | (simp at *;omega) | (simp_all;done)) : (Out.need p r).sat P K := ⟨hp,hr⟩
theorem xC0 {P : Program} {K : DS → Prop} {p : Prop} {r : Out} (hr : r.sat P K) (hp : p := by first | exact ⟨by decide,by rw [hl2];decide⟩ | exact ⟨rfl,by rw [hl2];decide⟩ | exact ini (by show _ ≤ ixI (zW h C).order ((zJ h v).items.getD 0 vl0).r + 1;omega) (by show ixI (zW h C).order ((zJ h v).items.getD 0 vl0).r + 1 ≤ _;omega) | first | exact trivial | omega | exact ini (by omega) (by omega) | (intro hh;simp at hh;exact ini (by omega) (by omega)) | (intro hh;simp at hh ⊢;omega) | (simp at *;omega) | (simp_all;done)) : (Out.need p r).sat P K := ⟨hp,hr⟩
set_option maxHeartbeats 2000000 in
theorem above_G (h : List Ob) (v : Vl) (s : ByteArray) (hh : HpIn h) (g : Uh h) (hk : (zJ h v).kind = 15) (hs : s.size ≤ 100) : FnG Tryz.prog 30 [.bp 0 0,.agg (obD (zJ h v)),.v (.string s)] (hpO h) (.agg (stD (upS h (zJ h v) s).1)) (hpO (upS h (zJ h v) s).2) := by
 have hg5 := g.hi;obtain ⟨R,hR⟩ : ∃ R,R = upS h (zJ h v) s := ⟨_,rfl⟩;rw [← hR];obtain ⟨hl2,hsin,hsh,hs109⟩ := su_links g hk;obtain ⟨h6,hob,eo⟩ := qA (h := h) (v := v) (by omega);have hin := yB hob;have hz := xV;have hwm : ((zJ h v).items.getD 1 vl0) ∈ (zJ h v).items := by
  rw [List.getD_eq_getElem?_getD,List.getElem?_eq_getElem (by omega)];exact List.getElem_mem _
 have hwr : ((zJ h v).items.getD 1 vl0).k = 6 → yD h ((zJ h v).items.getD 1 vl0).r = true := fun hk9 => g.items hin (by rw [← eo];exact hwm) hk9;have hwi := (wY (gc_obj g hh v) 1).1.vin;obtain ⟨C,hC⟩ : ∃ C,C = suC h (zJ h v) := ⟨_,rfl⟩;have hCe : suC h (zJ h v) = if (zJ h ((zJ h v).items.getD 1 vl0)).kind = 10 then (zJ h ((zJ h v).items.getD 1 vl0)).cls else ((zJ h v).items.getD 1 vl0).r := rfl;rw [← hC] at hsin hsh hCe;have hrg := pT0 hsh;have hol := (hh.at C).ol;have hck := aft_in hh g hsin ((zJ h v).items.getD 0 vl0).r;have hsa : suA h (zJ h v) s = fdO h (aftL (zW h C).order ((zJ h v).items.getD 0 vl0).r) s := by unfold suA;rw [← hC]
 obtain ⟨A,hA⟩ : ∃ A,A = fdV h s (suA h (zJ h v) s) := ⟨_,rfl⟩;obtain ⟨S,hS⟩ : ∃ S,S = suA h (zJ h v) s := ⟨_,rfl⟩;have har : A.k = 6 → yD h A.r = true := fun hk9 => by
  rw [hA,hsa] at hk9 ⊢
  cases hf : fdO h (aftL (zW h C).order ((zJ h v).items.getD 0 vl0).r) s with
  | none => rw [hf] at hk9;exact absurd hk9 (show ¬ (0 : Int) = 6 by decide)
  | some r =>
   rw [hf] at hk9;exact own_rv g (hck.2 r (List.mem_of_find?_eq_some hf)).1 s hk9
 have hai : VlIn A := by rw [hA,hsa];exact (gc_fd g hh (fun r hr => (hck.2 r hr).1) s).1.vin
 rw [← hS] at hA hsa;refine jJ zP Tryz.func30 rfl rfl rfl rfl rfl rfl rfl ?_;intro w0 s0 mx;refine zN 100 ?_;refine zB (zE zP [] 200 rfl ?_);repeat (first | refine zG ?_ | refine zH ?_ | refine zV (by first | exact ⟨by decide,by rw [hl2];decide⟩ | exact ⟨rfl,by rw [hl2];decide⟩ | first | exact trivial | omega | exact ini (by omega) (by omega) | (intro hh;simp at hh;exact ini (by omega) (by omega)) | (intro hh;simp at hh ⊢;omega) | (simp at *;omega) | (simp_all;done)) ?_)
 refine zC (zA (zN 300 ?_));refine zB ?_;refine yN [0,2,4,6,7,8,9] [0,1,2,3,104] 310 [] [(104,.box 29 (vlD ((zJ h v).items.getD 1 vl0)))] ?_;refine ⟨⟨yR,⟨⟨rfl,SubL.same rfl⟩,yM⟩,rfl,rfl⟩,?_⟩;refine zB (zT zP [] mK1 400 yP (by kernel_rfl) rfl ?_);refine zF ?_;refine yI _ (yJ h ((zJ h v).items.getD 1 vl0) hwr) rfl rfl ?_;refine zF ?_;refine zC (zA (zN 500 ?_));refine zS rfl (fun c4 => ?_) (fun c4 => ?_)
 ·have c4w : (zJ h ((zJ h v).items.getD 1 vl0)).kind = 10 := by simpa using c4
  rw [if_pos c4w] at hCe;refine qC zP [] 600 ?_;refine zA ?_;refine yN [0,2,4,6,7,9] [0,1,2,3,104] 610 [(8,.v (.int .i64 C))] [(315,.box 36 (obD (zJ h ((zJ h v).items.getD 1 vl0))))] ?_;refine ⟨⟨⟨Sub.int hCe.symm,yR⟩,⟨⟨rfl,SubL.same rfl⟩,yM⟩,rfl,rfl⟩,?_⟩;refine zB (zE zP [] 700 rfl ?_);repeat (first | refine zG ?_ | refine zH ?_ | refine bX0 ?_)
  refine zC (zA ?_);refine zB (zT zP [] mK9 800 yP (by kernel_rfl) rfl ?_);repeat (first | refine zG ?_ | refine zH ?_ | refine xC0 ?_)
  refine zQ _ (gB (zW h C).order ((zJ h v).items.getD 0 vl0).r) rfl ?_;repeat (first | refine zG ?_ | refine zH ?_ | refine xC0 ?_)
  refine yI _ ((vL h (aftL (zW h C).order ((zJ h v).items.getD 0 vl0).r) s hh hck).args ⟨SubP.refl _,SubP.of_eq (by show D.sl false 1 _ iD 0 = .sl false 1 _ iD 0;congr 1;unfold aftL;exact wX0 _ _),SubP.refl _,trivial⟩) rfl rfl ?_;repeat (first | refine zG ?_ | refine zH ?_ | refine xC0 ?_)
  refine zC (zA (zB ?_));refine yN [0,2,6,7,8,9,12] [0,1,3,104,719] 810 [(14,.v (.bool S.isSome))] [(719,.box 29 (vlD A))] ?_;refine ⟨⟨⟨Sub.bool (by rw [hsa]),yR⟩,⟨⟨rfl,by rw [hA,hsa];exact SubL.same rfl⟩,yM⟩,rfl,rfl⟩,?_⟩;refine zB (zT zP [] mK1 900 yP (by kernel_rfl) rfl ?_);refine zF ?_;refine yI _ (yJ h A har) rfl rfl ?_;refine zF ?_;refine zC (zA (zU ?_));refine yN [0,2,6,7,8,9,12,14,15] [0,1,3,104,719,815] 910 [] [(815,.box 36 (obD (zJ h A)))] ?_;refine ⟨⟨yR,⟨⟨rfl,SubL.same rfl⟩,yM⟩,rfl,rfl⟩,?_⟩;refine zN 1000 ?_;refine zS rfl (fun c9 => ?_) (fun c9 => ?_)
  ·have c9w : S.isSome = false := by simpa using c9
   refine zB (zE zP [] 1100 rfl ?_);repeat (first | refine zG ?_ | refine zH ?_ | refine pV ?_)
   refine zQ _ (yX _) rfl ?_;repeat (first | refine zG ?_ | refine zH ?_ | refine pV ?_)
   refine zC (zA (zL (zM (zK ?_))));have hn : R = (raS 36 (suB ++ s ++ qB),h) := by
    rw [hR];unfold upS;rw [← hS];rw [if_pos c9w]
   subst hn;exact qG
  ·have c9w : S.isSome = true := by simpa using c9
   refine zN 1200 ?_;refine wD rfl ?_;refine zN 1400 ?_;refine zS rfl (fun c13 => ?_) (fun c13 => ?_)
   ·have c13w : (zJ h A).kind = 12 := by simpa using c13
    refine zB (zE zP [] 1500 rfl ?_);refine zF ?_;refine zQ _ (kZ (zJ h A) ((zJ h v).items.getD 1 vl0) s (by rw [prop_item g c13w];decide) (by omega)) rfl ?_;refine zF ?_;refine zC (zA (zL (zM (zK ?_))));have hn : R = (gtS (zJ h A) ((zJ h v).items.getD 1 vl0) s,h) := by
     rw [hR];unfold upS;rw [← hS];rw [← hA,← hC];rw [if_neg (by rw [c9w];decide),if_neg (not_not_intro c4w),if_pos c13w]
    subst hn;exact qG
   ·have c13w : ¬ (zJ h A).kind = 12 := by simpa using c13
    refine zO (zR (zA ?_));refine zB (zE zP [1090] 1600 rfl ?_);refine zF ?_;refine yS _ _ (bound_G h A ((zJ h v).items.getD 1 vl0) C hh g har hai hwi hsin) rfl ?_;refine zF ?_;refine zC (zA (zL ?_));have hn : R = bdS h A ((zJ h v).items.getD 1 vl0) C true := by
     rw [hR];unfold upS;rw [← hS];rw [← hA,← hC];rw [if_neg (by rw [c9w];decide),if_neg (not_not_intro c4w),if_neg c13w]
    subst hn;exact qG
 ·have c4w : ¬ (zJ h ((zJ h v).items.getD 1 vl0)).kind = 10 := by simpa using c4
  rw [if_neg c4w] at hCe;refine zO (zA ?_);refine yN [0,2,4,6,7,9] [0,1,2,3,104] 510 [(8,.v (.int .i64 C))] [(315,.box 36 (obD (zJ h ((zJ h v).items.getD 1 vl0))))] ?_;refine ⟨⟨⟨Sub.int hCe.symm,yR⟩,⟨⟨rfl,SubL.same rfl⟩,yM⟩,rfl,rfl⟩,?_⟩;refine zB (zE zP [] 700 rfl ?_);repeat (first | refine zG ?_ | refine zH ?_ | refine bX0 ?_)
  refine zC (zA ?_);refine zB (zT zP [] mK9 800 yP (by kernel_rfl) rfl ?_);repeat (first | refine zG ?_ | refine zH ?_ | refine xC0 ?_)
  refine zQ _ (gB (zW h C).order ((zJ h v).items.getD 0 vl0).r) rfl ?_;repeat (first | refine zG ?_ | refine zH ?_ | refine xC0 ?_)
  refine yI _ ((vL h (aftL (zW h C).order ((zJ h v).items.getD 0 vl0).r) s hh hck).args ⟨SubP.refl _,SubP.of_eq (by show D.sl false 1 _ iD 0 = .sl false 1 _ iD 0;congr 1;unfold aftL;exact wX0 _ _),SubP.refl _,trivial⟩) rfl rfl ?_;repeat (first | refine zG ?_ | refine zH ?_ | refine xC0 ?_)
  refine zC (zA (zB ?_));refine yN [0,2,6,7,8,9,12] [0,1,3,104,719] 810 [(14,.v (.bool S.isSome))] [(719,.box 29 (vlD A))] ?_;refine ⟨⟨⟨Sub.bool (by rw [hsa]),yR⟩,⟨⟨rfl,by rw [hA,hsa];exact SubL.same rfl⟩,yM⟩,rfl,rfl⟩,?_⟩;refine zB (zT zP [] mK1 900 yP (by kernel_rfl) rfl ?_);refine zF ?_;refine yI _ (yJ h A har) rfl rfl ?_;refine zF ?_;refine zC (zA (zU ?_));refine yN [0,2,6,7,8,9,12,14,15] [0,1,3,104,719,815] 910 [] [(815,.box 36 (obD (zJ h A)))] ?_;refine ⟨⟨yR,⟨⟨rfl,SubL.same rfl⟩,yM⟩,rfl,rfl⟩,?_⟩;refine zN 1000 ?_;refine zS rfl (fun c9 => ?_) (fun c9 => ?_)
  ·have c9w : S.isSome = false := by simpa using c9
   refine zB (zE zP [] 1100 rfl ?_);repeat (first | refine zG ?_ | refine zH ?_ | refine pV ?_)
   refine zQ _ (yX _) rfl ?_;repeat (first | refine zG ?_ | refine zH ?_ | refine pV ?_)
   refine zC (zA (zL (zM (zK ?_))));have hn : R = (raS 36 (suB ++ s ++ qB),h) := by
    rw [hR];unfold upS;rw [← hS];rw [if_pos c9w]
   subst hn;exact qG
  ·have c9w : S.isSome = true := by simpa using c9
   refine zN 1200 ?_;refine dD rfl ?_;refine zB (zE zP [1077] 1300 rfl ?_);refine zF ?_
   refine yS _ _ (by
     have h9 := ofClass_G h A C hh g har hai hsin;rw [dK0 h A vl0 ((zJ h v).items.getD 1 vl0) C] at h9;exact h9) rfl ?_
   refine zF ?_;refine zC (zA (zL (zM (zK ?_))));have hn : R = bdS h A ((zJ h v).items.getD 1 vl0) C false := by
    rw [hR];unfold upS;rw [← hS];rw [← hA,← hC];rw [if_neg (by rw [c9w];decide),if_pos c4w]
   subst hn;exact qG
theorem gD0 {P : Program} {K : DS → Prop} {p : Prop} {r : Out} (hr : r.sat P K) (hp : p := by first | exact ⟨by decide,(meth_item g c7w.1).1⟩ | exact ⟨rfl,(meth_item g c7w.1).1⟩ | first | exact trivial | omega | exact ini (by omega) (by omega) | (intro hh;simp at hh;exact ini (by omega) (by omega)) | (intro hh;simp at hh ⊢;omega) | (simp at *;omega) | (simp_all;done)) : (Out.need p r).sat P K := ⟨hp,hr⟩
theorem gC0 {P : Program} {K : DS → Prop} {p : Prop} {r : Out} (hr : r.sat P K) (hp : p := by first | exact ⟨by decide,(meth_item g c9).1⟩ | exact ⟨rfl,(meth_item g c9).1⟩ | exact ⟨hii.1,hii.2⟩ | exact ⟨rfl,hii.2⟩ | exact ⟨by simp [MR.len],by simpa [MR.len] using hii.2⟩ | rfl | (simp only [MR.len];done) | first | exact trivial | omega | exact ini (by omega) (by omega) | (intro hh;simp at hh;exact ini (by omega) (by omega)) | (intro hh;simp at hh ⊢;omega) | (simp at *;omega) | (simp_all;done)) : (Out.need p r).sat P K := ⟨hp,hr⟩
theorem vF0 {P : Program} {K : DS → Prop} {p : Prop} {r : Out} (hr : r.sat P K) (hp : p := by first | exact ⟨hci.1,hci.2⟩ | exact ⟨rfl,hci.2⟩ | exact ⟨by simp [MR.len],by simpa [MR.len] using hci.2⟩ | rfl | (simp only [MR.len];done) | (simp only [ByteArray.size_append,kbs,List.size_toArray,List.length_cons,List.length_nil];omega) | first | exact trivial | omega | exact ini (by omega) (by omega) | (intro hh;simp at hh;exact ini (by omega) (by omega)) | (intro hh;simp at hh ⊢;omega) | (simp at *;omega) | (simp_all;done)) : (Out.need p r).sat P K := ⟨hp,hr⟩
set_option maxHeartbeats 2000000 in
theorem builtin_G (h : List Ob) (v : Vl) (s : ByteArray) (hh : HpIn h) (g : Uh h) (hv : hasS h v = true) (hiv : VlIn v) (hs : s.size ≤ 100) (h9 : ¬ (zJ h v).kind = 9) (h11 : ¬ (zJ h v).kind = 11) : FnG Tryz.prog 31 [.bp 0 0,.agg (vlD v),.v (.string s)] (hpO h) (.agg (stD (biS h v s).1)) (hpO (biS h v s).2) := by
 have hg5 := g.hi;obtain ⟨R,hR⟩ : ∃ R,R = biS h v s := ⟨_,rfl⟩;rw [← hR];have hz := xV;have hcf := cf_of g hv;have hvo := uC hv;have hci := clA_in g hcf;have hnz := nm_sz g hci;have hnz2 : (h.getD (clA h v).toNat ob0).name.size ≤ 700 := hnz;have hoz := obj_sz g v;have hbi : VlIn (biV ((zW h (clA h v)).name ++ dotB ++ s)) := ⟨(by decide : (-9223372036854775808 : Int) ≤ 7),(by decide : (7 : Int) ≤ 9223372036854775807),(by decide : (-9223372036854775808 : Int) ≤ 0),(by decide : (0 : Int) ≤ 9223372036854775807),(fun _ h => by cases h),(fun _ h => by cases h),(by decide : 0 ≤ 2000000),(by decide : 0 ≤ 2000000),by show ((zW h (clA h v)).name ++ dotB ++ s).size ≤ 2000000;rw [ByteArray.size_append,ByteArray.size_append];omega⟩;refine jJ zP Tryz.func31 rfl rfl rfl rfl rfl rfl rfl ?_;intro w0 s0 mx;refine zN 100 ?_;refine zB (zT zP [] mK1 200 yP (by kernel_rfl) rfl ?_);refine zF ?_;refine yI _ (yJ h v hvo) rfl rfl ?_;refine zF ?_;refine zC (zA (zB ?_));refine yN [0,2,4,6,7] [0,1,2,3,105] 210 [] [(105,.box 36 (obD (zJ h v)))] ?_;refine ⟨⟨yR,⟨⟨rfl,SubL.same rfl⟩,yM⟩,rfl,rfl⟩,?_⟩;refine zN 300 ?_;refine zS rfl (fun c2 => ?_) (fun c2 => ?_)
 ·have c2w : s = wI := of_decide_eq_true c2;refine zU (zN 400 ?_);refine zZ (fun c3 => ?_) (fun c3 => ?_)
  ·
   refine zB (zE zP [] 500 rfl ?_);refine zF ?_;refine zQ _ (qN _) rfl ?_;refine zF ?_;refine zQ _ (yW _) rfl ?_;refine zF ?_;refine zC (zA (zL (zM (zK ?_))));have hnm : qX h v = (v.s,true) := by unfold qX uR;rw [if_pos c3]
   have hn : R = (vlS (txV (v.s)),h) := by
    rw [hR];unfold biS;rw [if_pos ⟨c2w,by rw [hnm]⟩,hnm]
   subst hn;exact qG
  ·
   refine zN 600 ?_;refine zZ (fun c5 => ?_) (fun c5 => ?_)
   ·
    refine zB (zE zP [] 700 rfl ?_);refine zF ?_;refine zQ _ (qN _) rfl ?_;refine zF ?_;refine zQ _ (yW _) rfl ?_;refine zF ?_;refine zC (zA (zL (zM (zK ?_))));have hnm : qX h v = ((zJ h v).name,true) := by unfold qX uR;rw [if_neg c3,if_pos c5]
    have hn : R = (vlS (txV ((zJ h v).name)),h) := by
     rw [hR];unfold biS;rw [if_pos ⟨c2w,by rw [hnm]⟩,hnm]
    subst hn;exact qG
   ·
    refine zB (zE zP [] 800 rfl ?_);repeat (first | refine zG ?_ | refine zH ?_ | refine zV (by first | exact ⟨by decide,(meth_item g (by assumption)).1⟩ | exact ⟨rfl,(meth_item g (by assumption)).1⟩ | exact fun hh9 => ⟨by decide,(meth_item g (by simpa using hh9)).1⟩ | exact fun hh9 => ⟨rfl,(meth_item g (by simpa using hh9)).1⟩ | exact fun hh9 => (meth_item g (by simpa using hh9)).1 | first | exact trivial | omega | exact ini (by omega) (by omega) | (intro hh;simp at hh;exact ini (by omega) (by omega)) | (intro hh;simp at hh ⊢;omega) | (simp at *;omega) | (simp_all;done)) ?_)
    refine zC (zA (zS rfl (fun c7 => ?_) (fun c7 => ?_)))
    ·have c7w : (zJ h v).kind = 8 ∧ ((zJ h v).items.getD 0 vl0).k = 7 := by simpa using c7
     refine zB (zE zP [] 900 rfl ?_);repeat (first | refine zG ?_ | refine zH ?_ | refine gD0 ?_)
     refine zQ _ (qN _) rfl ?_;repeat (first | refine zG ?_ | refine zH ?_ | refine gD0 ?_)
     refine zQ _ (yW _) rfl ?_;repeat (first | refine zG ?_ | refine zH ?_ | refine gD0 ?_)
     refine zC (zA (zL (zM (zK ?_))));have hn1 : kU h ((zJ h v).items.getD 0 vl0) = (((zJ h v).items.getD 0 vl0).s,true) := by unfold kU uR;rw [if_pos c7w.2]
     have hnm : qX h v = (((zJ h v).items.getD 0 vl0).s,true) := by unfold qX uR;rw [if_neg c3,if_neg c5,if_pos c7w.1,hn1]
     have hn : R = (vlS (txV (((zJ h v).items.getD 0 vl0).s)),h) := by
      rw [hR];unfold biS;rw [if_pos ⟨c2w,by rw [hnm]⟩,hnm]
     subst hn;exact qG
    ·have c7w : ¬ ((zJ h v).kind = 8 ∧ ((zJ h v).items.getD 0 vl0).k = 7) := by simpa using c7
     refine zN 1000 ?_;refine zS rfl (fun c9 => ?_) (fun c9 => ?_)
     ·replace c9 : (zJ h v).kind = 8 := by simpa using c9
      have hi7 : ¬ ((zJ h v).items.getD 0 vl0).k = 7 := fun h8 => c7w ⟨c9,h8⟩;have hif : (zJ h ((zJ h v).items.getD 0 vl0)).kind = 7 := by
       have h8 := (meth_item g c9).2;simp only [uG,Bool.or_eq_true,decide_eq_true_eq] at h8;exact h8.resolve_left hi7
      obtain ⟨hi6,hio,hie⟩ := qA (h := h) (v := ((zJ h v).items.getD 0 vl0)) (by omega);have hii := yB hio;refine zB (zT zP [] mK22 1100 yP (by kernel_rfl) rfl ?_);repeat (first | refine zG ?_ | refine zH ?_ | refine gC0 ?_)
      refine zQ _ ((qN (zJ h ((zJ h v).items.getD 0 vl0)).name).args ⟨SubP.of_eq (by rw [hie];rfl),trivial⟩) rfl ?_;repeat (first | refine zG ?_ | refine zH ?_ | refine gC0 ?_)
      refine zQ _ (yW _) rfl ?_;repeat (first | refine zG ?_ | refine zH ?_ | refine gC0 ?_)
      refine zC (zA (zL (zM (zK ?_))));have hn1 : kU h ((zJ h v).items.getD 0 vl0) = ((zJ h ((zJ h v).items.getD 0 vl0)).name,true) := by unfold kU uR;rw [if_neg hi7,if_pos hif]
      have hn2 : (zJ h ((zJ h v).items.getD 0 vl0)).name = (zW h ((zJ h v).items.getD 0 vl0).r).name := by rw [hie]
      have hnm : qX h v = ((zJ h ((zJ h v).items.getD 0 vl0)).name,true) := by unfold qX uR;rw [if_neg c3,if_neg c5,if_pos c9,hn1]
      have hn : R = (vlS (txV ((zJ h ((zJ h v).items.getD 0 vl0)).name)),h) := by
       rw [hR];unfold biS;rw [if_pos ⟨c2w,by rw [hnm]⟩,hnm]
      subst hn;exact qG
     ·replace c9 : ¬ (zJ h v).kind = 8 := by simpa using c9
      refine zO (zR (zA (zB ?_)));refine zB (zT zP [] mK3 1200 yP (by kernel_rfl) rfl ?_);refine zF ?_;refine yI _ (jR h v hcf) rfl rfl ?_;refine zF ?_;refine zC (zA ?_);refine zB (zE zP [] 1300 rfl ?_);refine zF ?_;refine zQ _ (vI _) rfl ?_;refine zF ?_;refine zQ _ (vM (mtL (clA h v)) s) rfl ?_;refine zF ?_;refine zC (zA (zS rfl (fun c12 => ?_) (fun c12 => ?_)))
      ·have c12w : hasB (mtL (clA h v)) s = true := by simpa using c12
       refine zB (zT zP [1092] mK10 1400 yP (by kernel_rfl) rfl ?_);repeat (first | refine zG ?_ | refine zH ?_ | refine vF0 ?_)
       refine yS _ _ ((jS h (biV ((zW h (clA h v)).name ++ dotB ++ s)) v (by omega) hbi hiv).args ⟨Sub.refl _,Sub.ofP (SubP.agg (by repeat (first | exact trivial | exact SubP.refl _ | exact SubP.nilSl rfl | refine ⟨?_,?_⟩))) rfl rfl,Sub.refl _,trivial⟩) rfl ?_;repeat (first | refine zG ?_ | refine zH ?_ | refine vF0 ?_)
       refine zC (zA (zL (zK ?_)));have hnn : ¬ (s = wI ∧ (qX h v).2 = true) := fun hh9 => by
        have h8 := hh9.2;rw [named_is h g v,decide_eq_false c3,decide_eq_false c5,decide_eq_false c9] at h8
        cases h8
       have hn : R = newS h (mtO (biV ((zW h (clA h v)).name ++ dotB ++ s)) v) := by
        rw [hR];unfold biS;rw [if_neg hnn,if_pos c12w]
       subst hn;exact qG
      ·have c12w : hasB (mtL (clA h v)) s = false := by simpa using c12
       refine zO (zA ?_);refine zB (zT zP [] mK2 1500 yP (by kernel_rfl) rfl ?_);refine zF ?_;refine yI _ (atLacks_ok h v s g hcf (by omega) h9 h11) rfl rfl ?_;refine zF ?_;refine zC (zA (zL ?_));have hnn : ¬ (s = wI ∧ (qX h v).2 = true) := fun hh9 => by
        have h8 := hh9.2;rw [named_is h g v,decide_eq_false c3,decide_eq_false c5,decide_eq_false c9] at h8
        cases h8
       have hn : R = (lkS h v s,h) := by
        rw [hR];unfold biS;rw [if_neg hnn,if_neg (by rw [c12w];decide)]
       subst hn;exact qG
 ·have c2w : ¬ s = wI := of_decide_eq_false c2;refine zO (zA (zB ?_));refine zB (zT zP [] mK3 1200 yP (by kernel_rfl) rfl ?_);refine zF ?_;refine yI _ (jR h v hcf) rfl rfl ?_;refine zF ?_;refine zC (zA ?_);refine zB (zE zP [] 1300 rfl ?_);refine zF ?_;refine zQ _ (vI _) rfl ?_;refine zF ?_;refine zQ _ (vM (mtL (clA h v)) s) rfl ?_;refine zF ?_;refine zC (zA (zS rfl (fun c12 => ?_) (fun c12 => ?_)))
  ·have c12w : hasB (mtL (clA h v)) s = true := by simpa using c12
   refine zB (zT zP [1092] mK10 1400 yP (by kernel_rfl) rfl ?_);repeat (first | refine zG ?_ | refine zH ?_ | refine vF0 ?_)
   refine yS _ _ ((jS h (biV ((zW h (clA h v)).name ++ dotB ++ s)) v (by omega) hbi hiv).args ⟨Sub.refl _,Sub.ofP (SubP.agg (by repeat (first | exact trivial | exact SubP.refl _ | exact SubP.nilSl rfl | refine ⟨?_,?_⟩))) rfl rfl,Sub.refl _,trivial⟩) rfl ?_;repeat (first | refine zG ?_ | refine zH ?_ | refine vF0 ?_)
   refine zC (zA (zL (zK ?_)));have hnn : ¬ (s = wI ∧ (qX h v).2 = true) := fun hh9 => c2w hh9.1;have hn : R = newS h (mtO (biV ((zW h (clA h v)).name ++ dotB ++ s)) v) := by
    rw [hR];unfold biS;rw [if_neg hnn,if_pos c12w]
   subst hn;exact qG
  ·have c12w : hasB (mtL (clA h v)) s = false := by simpa using c12
   refine zO (zA ?_);refine zB (zT zP [] mK2 1500 yP (by kernel_rfl) rfl ?_);refine zF ?_;refine yI _ (atLacks_ok h v s g hcf (by omega) h9 h11) rfl rfl ?_;refine zF ?_;refine zC (zA (zL ?_));have hnn : ¬ (s = wI ∧ (qX h v).2 = true) := fun hh9 => c2w hh9.1;have hn : R = (lkS h v s,h) := by
    rw [hR];unfold biS;rw [if_neg hnn,if_neg (by rw [c12w];decide)]
   subst hn;exact qG
theorem atGetV_G (h : List Ob) (v : Vl) (s : ByteArray) (hh : HpIn h) (g : Uh h) (hv : hasS h v = true) (hiv : VlIn v) (hs : s.size ≤ 100) : FnG Tryz.prog 10 [.bp 0 0,.agg (vlD v),.v (.string s)] (hpO h) (.agg (stD (jP h v s).1)) (hpO (jP h v s).2) := by
 have hg5 := g.hi;obtain ⟨R,hR⟩ : ∃ R,R = jP h v s := ⟨_,rfl⟩;rw [← hR];have hz := xV;have hcf := cf_of g hv;have hvo := uC hv;have hci := clA_in g hcf;have hnz := nm_sz g hci;have hnz2 : (h.getD (clA h v).toNat ob0).name.size ≤ 700 := hnz;have hoz := obj_sz g v;refine jJ zP Tryz.func10 rfl rfl rfl rfl rfl rfl rfl ?_;intro w0 s0 mx;refine zN 100 ?_;refine zB ?_;refine zB (zT zP [] mK1 200 yP (by kernel_rfl) rfl ?_);refine zF ?_;refine yI _ (yJ h v hvo) rfl rfl ?_;refine zF ?_;refine zC (zA ?_);refine yN [0,2,4,6,7] [0,1,2,3,105] 210 [] [(105,.box 36 (obD (zJ h v)))] ?_;refine ⟨⟨yR,⟨⟨rfl,SubL.same rfl⟩,yM⟩,rfl,rfl⟩,?_⟩;refine zN 300 ?_;refine zU (zN 400 ?_);refine zZ (fun c3 => ?_) (fun c3 => ?_)
 ·
  refine zB (zE zP [1022] 500 rfl ?_);refine zF ?_;refine yS _ _ (ofInstance_G h v s hh g c3 hv hiv hs) rfl ?_;refine zF ?_;refine zC (zA (zL (zM (zK ?_))));have hn : R = wiS h v s (fdV h s (fdO h (zW h (zJ h v).cls).order s)) (fdO h (zW h (zJ h v).cls).order s).isSome := by
   rw [hR];unfold jP;rw [if_pos c3]
  subst hn;exact qG
 ·
  refine zN 600 ?_;refine zZ (fun c5 => ?_) (fun c5 => ?_)
  ·
   refine zB (zE zP [1029] 700 rfl ?_);refine zF ?_;refine yS _ _ (atGet_G h v s hh g c5 hs) rfl ?_;refine zF ?_;refine zC (zA (zL (zM (zK ?_))));have hn : R = clsS h v s := by
    rw [hR];unfold jP;rw [if_neg c3,if_pos c5]
   subst hn;exact qG
  ·
   refine zN 800 ?_;refine zZ (fun c7 => ?_) (fun c7 => ?_)
   ·
    refine zB ?_;refine zB (zE zP [] 900 rfl ?_);refine zF ?_;refine zQ _ (vE (zJ h v) s (obj_names g v)) rfl ?_;refine zF ?_;refine zC (zA (zN 1000 ?_));refine zS rfl (fun c9 => ?_) (fun c9 => ?_)
    ·have c9w : jC (zJ h v) s = true := by simpa using c9
     refine zB (zE zP [] 1100 rfl ?_);refine zF ?_;refine zQ _ (yW _) rfl ?_;refine zF ?_;refine zC (zA (zL (zK (zM (zK ?_)))));have hn : R = (vlS (jF (zJ h v) s),h) := by
      rw [hR];unfold jP;rw [if_neg c3,if_neg c5,if_pos c7,if_pos c9w]
     subst hn;exact qG
    ·have c9w : jC (zJ h v) s = false := by simpa using c9
     refine zO (zA ?_);refine zB (zE zP [] 1200 rfl ?_);repeat (first | refine zG ?_ | refine zH ?_ | refine pV ?_)
     refine zQ _ (yX _) rfl ?_;repeat (first | refine zG ?_ | refine zH ?_ | refine pV ?_)
     refine zC (zA (zL (zM (zK ?_))));have hn : R = (raS 36 (mqB ++ (zJ h v).name ++ nhB ++ s ++ qB),h) := by
      rw [hR];unfold jP;rw [if_neg c3,if_neg c5,if_pos c7,if_neg (by rw [c9w];decide),lkS,whoS,if_neg c5,if_pos c7]
     subst hn;exact qG
   ·
    refine zN 1300 ?_;refine zZ (fun c12 => ?_) (fun c12 => ?_)
    ·
     refine zB (zE zP [1054] 1400 rfl ?_);refine zF ?_;refine yS _ _ (above_G h v s hh g c12 hs) rfl ?_;refine zF ?_;refine zC (zA (zL (zM (zK ?_))));have hn : R = upS h (zJ h v) s := by
      rw [hR];unfold jP;rw [if_neg c3,if_neg c5,if_neg c7,if_pos c12]
     subst hn;exact qG
    ·
     refine zO (zR (zA ?_));refine zB (zE zP [1058] 1500 rfl ?_);refine zF ?_;refine yS _ _ (builtin_G h v s hh g hv hiv hs c5 c7) rfl ?_;refine zF ?_;refine zC (zA (zL ?_));have hn : R = biS h v s := by
      rw [hR];unfold jP;rw [if_neg c3,if_neg c5,if_neg c7,if_neg c12]
     subst hn;exact qG
end Gq
end Go.Proofs.YtnajlcfdjjmfiaaGreatDoor
