/- Part 26 of the proof. -/
import Derived.Test.YtbhndnphimmjjaaGreatDoorM25
namespace Go.Proofs.YtbhndnphimmjjaaGreatDoor
open Go.RowKit
variable {md me : Bool}
theorem kF0 {P : Program} {K : DS → Prop} {p : Prop} {r : Out} (hr : r.sat P K) (hp : p := by first | exact ⟨by decide,jM g (.inl c4)⟩ | exact ⟨rfl,jM g (.inl c4)⟩ | first | exact trivial | omega | exact ini (by omega) (by omega) | (intro hh;simp at hh;exact ini (by omega) (by omega)) | (intro hh;simp at hh ⊢;omega) | (simp at *;omega) | (simp_all;done)) : (Out.need p r).sat P K := ⟨hp,hr⟩
theorem bF {P : Program} {K : DS → Prop} {p : Prop} {r : Out} (hr : r.sat P K) (hp : p := by first | exact ⟨by decide,jM g (.inr c6)⟩ | exact ⟨rfl,jM g (.inr c6)⟩ | first | exact trivial | omega | exact ini (by omega) (by omega) | (intro hh;simp at hh;exact ini (by omega) (by omega)) | (intro hh;simp at hh ⊢;omega) | (simp at *;omega) | (simp_all;done)) : (Out.need p r).sat P K := ⟨hp,hr⟩
theorem xE {T : List (Nat × TI)} {rs : List ResultVar} {n0 : Nat} {out d : D} {own' : List DOwn} {S : DS} (hk : Nat.ble n0 2 = true := by rfl) (h : finH T S rs = some d := by rfl) (hs : Sub d (out.ren (qD (iota n0) 2)) := by exact Sub.ofP (SubP.agg (SubPs.refl _)) rfl rfl) (ho : gW (iota n0) 2 S.ow 0 own' := by exact ⟨⟨rfl,Sub.mo rfl,rfl,trivial⟩,SubO.mp rfl,trivial⟩) : FinH T rs n0 out own' .ret S := FinH.ret 2 hk h hs ho
theorem wG0 (h : List Ob) (a v : Vl) (c : Int) (hh : HpIn h) (g : Uh h) (ha : a.k = 6 → yW h a.r = true) (hia : VlIn a) (hiv : VlIn v) (hc : inH h c) : FnG Tryz.prog 90 [.bp 0 0,.agg (vlD a),.agg (vlD v),.v (.int .i64 c)] (hpO h) (.agg (stD (bdS h a v c true).1)) (hpO (bdS h a v c true).2) := by
 have hg5 := g.hi;obtain ⟨R,hR⟩ : ∃ R,R = bdS h a v c true := ⟨_,rfl⟩;rw [← hR];refine jE zM Tryz.func90 rfl rfl rfl rfl rfl rfl rfl ?_;intro w0 s0 mx;refine zL 100 ?_;refine zB ?_;refine zB (zV zM [] mK1 200 yR (by kernel_rfl) rfl ?_);refine zF ?_;refine yO _ (yZ h a ha) rfl rfl ?_;refine zF ?_;refine zC (zA (zQ ?_));refine yK [0,3,5,6,8,9] [0,1,2,3,4,105] 210 [] [(105,.box 36 (obD (zR h a)))] ?_;refine ⟨⟨yH,⟨⟨rfl,SubL.same rfl⟩,yG⟩,rfl,rfl⟩,?_⟩;refine zB (zV zM [] mK4 300 yR (by kernel_rfl) rfl ?_);refine zF ?_;refine yO _ (xY h a ha) rfl rfl ?_;refine zF ?_;refine zC (zA (zS rfl (fun c2 => ?_) (fun c2 => ?_)))
 ·have c2 : kR h a = true := by simpa using c2
  refine zB (zE zM [1026] 400 rfl ?_);refine zF ?_;refine yJ _ _ (wN h a v (by omega) hia hiv) rfl ?_;refine zF ?_;refine zC (zA (zJ (zN (zK ?_))));have hn : R = newS h (mtO a v) := by
   rw [hR];unfold bdS;rw [if_pos (by rw [c2];rfl)]
  subst hn;exact xE
 ·have c2 : kR h a = false := by simpa using c2
  refine zL 500 ?_;refine zY (fun c4 => ?_) (fun c4 => ?_)
  ·
   refine zB (zE zM [] 600 rfl ?_);repeat (first | refine zG ?_ | refine zH ?_ | refine kF0 ?_)
   refine zT _ (qI _) rfl ?_;repeat (first | refine zG ?_ | refine zH ?_ | refine kF0 ?_)
   refine zC (zA (zJ (zN (zK ?_))));have hn : R = (vlS ((zR h a).items.getD 0 vl0),h) := by
    rw [hR];unfold bdS;rw [if_neg (by rw [c2];decide),if_pos c4]
   subst hn;exact xE
  ·
   refine zL 700 ?_;refine zY (fun c6 => ?_) (fun c6 => ?_)
   ·
    refine zB (zV zM [1047] [[],[],[1],[1,2],[1,2,3],[],[5],(rgN 7),(rgN 8)] 800 yR (by kernel_rfl) rfl ?_);repeat (first | refine zG ?_ | refine zH ?_ | refine bF ?_)
    refine zT _ (uC _) rfl ?_;repeat (first | refine zG ?_ | refine zH ?_ | refine bF ?_)
    refine yJ _ _ (wN h ((zR h a).items.getD 0 vl0) (rfV c) (by omega) (vD (wH g hh a) 0).1.vin (vP0 hc (by omega)).1.vin) rfl ?_;repeat (first | refine zG ?_ | refine zH ?_ | refine bF ?_)
    refine zC (zA (zJ (zN (zK ?_))));have hn : R = newS h (mtO ((zR h a).items.getD 0 vl0) (rfV c)) := by
     rw [hR];unfold bdS;rw [if_neg (by rw [c2];decide),if_neg c4,if_pos c6]
    subst hn;exact xE
   ·
    refine zB (zV zM [] mK2 900 yR (by kernel_rfl) rfl ?_);refine zF ?_;refine yO _ ((pU0 h a [onR] hh g ha).args ⟨SubP.refl _,SubP.refl _,SubP.slrSl (m := false) rfl,trivial⟩) rfl rfl ?_;refine zF ?_;refine zC (zA (zS rfl (fun c8 => ?_) (fun c8 => ?_)))
    ·have c8w : (spS h a onR).2.2 = true := by simpa using c8
     refine zB (zV zM [] mK5 1000 yR (by kernel_rfl) rfl ?_);refine zF ?_;refine zT _ (uC _) rfl ?_;refine zF ?_;refine yO _ ((gA h a onR [v,rfV c] hh g ha (by show 2 ≤ 1000000;decide)).args ⟨SubP.refl _,SubP.refl _,SubP.refl _,SubP.slrSl (m := false) rfl,trivial⟩) rfl rfl ?_;refine zF ?_;refine zC (zA (zL 1100 ?_));refine zJ (zN (zK ?_));have hn : R = (caS (spS h a onR).1 ((spS h a onR).2.1 ++ [v,rfV c]),h) := by
      rw [hR];unfold bdS;rw [if_neg (by rw [c2];decide),if_neg c4,if_neg c6,if_pos c8w];rfl
     subst hn;exact xE
    ·have c8w : (spS h a onR).2.2 = false := by simpa using c8
     refine zO (zP (zA ?_));refine zB (zE zM [] 1200 rfl ?_);refine zF ?_;refine zT _ (qI _) rfl ?_;refine zF ?_;refine zC (zA (zJ ?_));have hn : R = (vlS a,h) := by
      rw [hR];unfold bdS;rw [if_neg (by rw [c2];decide),if_neg c4,if_neg c6,if_neg (by rw [c8w];decide)]
     subst hn;exact xE
theorem yC1 {P : Program} {K : DS → Prop} {p : Prop} {r : Out} (hr : r.sat P K) (hp : p := by first | exact ⟨by decide,jM g (.inl c2)⟩ | exact ⟨rfl,jM g (.inl c2)⟩ | first | exact trivial | omega | exact ini (by omega) (by omega) | (intro hh;simp at hh;exact ini (by omega) (by omega)) | (intro hh;simp at hh ⊢;omega) | (simp at *;omega) | (simp_all;done)) : (Out.need p r).sat P K := ⟨hp,hr⟩
theorem cV0 {P : Program} {K : DS → Prop} {p : Prop} {r : Out} (hr : r.sat P K) (hp : p := by first | exact ⟨by decide,jM g (.inr c4)⟩ | exact ⟨rfl,jM g (.inr c4)⟩ | first | exact trivial | omega | exact ini (by omega) (by omega) | (intro hh;simp at hh;exact ini (by omega) (by omega)) | (intro hh;simp at hh ⊢;omega) | (simp at *;omega) | (simp_all;done)) : (Out.need p r).sat P K := ⟨hp,hr⟩
theorem qU0 (h : List Ob) (a : Vl) (c : Int) (hh : HpIn h) (g : Uh h) (ha : a.k = 6 → yW h a.r = true) (hia : VlIn a) (hc : inH h c) : FnG Tryz.prog 86 [.bp 0 0,.agg (vlD a),.v (.int .i64 c)] (hpO h) (.agg (stD (bdS h a vl0 c false).1)) (hpO (bdS h a vl0 c false).2) := by
 have hg5 := g.hi;obtain ⟨R,hR⟩ : ∃ R,R = bdS h a vl0 c false := ⟨_,rfl⟩;rw [← hR];refine jE zM Tryz.func86 rfl rfl rfl rfl rfl rfl rfl ?_;intro w0 s0 mx;refine zL 100 ?_;refine zB ?_;refine zB (zV zM [] mK1 200 yR (by kernel_rfl) rfl ?_);refine zF ?_;refine yO _ (yZ h a ha) rfl rfl ?_;refine zF ?_;refine zC (zA (zQ ?_));refine yK [0,2,4,6,7] [0,1,2,3,105] 210 [] [(105,.box 36 (obD (zR h a)))] ?_;refine ⟨⟨yH,⟨⟨rfl,SubL.same rfl⟩,yG⟩,rfl,rfl⟩,?_⟩;refine zL 300 ?_;refine zY (fun c2 => ?_) (fun c2 => ?_)
 ·
  refine zB (zE zM [] 400 rfl ?_);repeat (first | refine zG ?_ | refine zH ?_ | refine yC1 ?_)
  refine zT _ (qI _) rfl ?_;repeat (first | refine zG ?_ | refine zH ?_ | refine yC1 ?_)
  refine zC (zA (zJ (zN (zK ?_))));have hn : R = (vlS ((zR h a).items.getD 0 vl0),h) := by
   rw [hR];unfold bdS;rw [if_neg (by simp),if_pos c2]
  subst hn;exact xE
 ·
  refine zL 500 ?_;refine zY (fun c4 => ?_) (fun c4 => ?_)
  ·
   refine zB (zV zM [1035] [[],[],[1],[1,2],[1,2,3],[],[5],(rgN 7),(rgN 8)] 600 yR (by kernel_rfl) rfl ?_);repeat (first | refine zG ?_ | refine zH ?_ | refine cV0 ?_)
   refine zT _ (uC _) rfl ?_;repeat (first | refine zG ?_ | refine zH ?_ | refine cV0 ?_)
   refine yJ _ _ (wN h ((zR h a).items.getD 0 vl0) (rfV c) (by omega) (vD (wH g hh a) 0).1.vin (vP0 hc (by omega)).1.vin) rfl ?_;repeat (first | refine zG ?_ | refine zH ?_ | refine cV0 ?_)
   refine zC (zA (zJ (zN (zK ?_))));have hn : R = newS h (mtO ((zR h a).items.getD 0 vl0) (rfV c)) := by
    rw [hR];unfold bdS;rw [if_neg (by simp),if_neg c2,if_pos c4]
   subst hn;exact xE
  ·
   refine zB (zV zM [] mK2 700 yR (by kernel_rfl) rfl ?_);refine zF ?_;refine yO _ ((pU0 h a [onR] hh g ha).args ⟨SubP.refl _,SubP.refl _,SubP.slrSl (m := false) rfl,trivial⟩) rfl rfl ?_;refine zF ?_;refine zC (zA (zS rfl (fun c6 => ?_) (fun c6 => ?_)))
   ·have c6w : (spS h a onR).2.2 = true := by simpa using c6
    refine zB (zV zM [] mK5 800 yR (by kernel_rfl) rfl ?_);refine zF ?_;refine zT _ (uC _) rfl ?_;refine zF ?_;refine yO _ ((gA h a onR [vl0,rfV c] hh g ha (by show 2 ≤ 1000000;decide)).args ⟨SubP.refl _,SubP.refl _,SubP.refl _,SubP.slrRows (by repeat (first | exact trivial | exact SubPs.refl _ | exact SubP.refl _ | exact SubP.nilSl rfl | refine ⟨?_,?_⟩)),trivial⟩) rfl rfl ?_;refine zF ?_;refine zC (zA (zL 900 ?_));refine zJ (zN (zK ?_));have hn : R = (caS (spS h a onR).1 ((spS h a onR).2.1 ++ [vl0,rfV c]),h) := by
     rw [hR];unfold bdS;rw [if_neg (by simp),if_neg c2,if_neg c4,if_pos c6w];rfl
    subst hn;exact xE
   ·have c6w : (spS h a onR).2.2 = false := by simpa using c6
    refine zO (zP (zA ?_));refine zB (zE zM [] 1000 rfl ?_);refine zF ?_;refine zT _ (qI _) rfl ?_;refine zF ?_;refine zC (zA (zJ ?_));have hn : R = (vlS a,h) := by
     rw [hR];unfold bdS;rw [if_neg (by simp),if_neg c2,if_neg c4,if_neg (by rw [c6w];decide)]
    subst hn;exact xE
theorem wH0 (h : List Ob) (a v : Vl) (c : Int) (hh : HpIn h) (g : Uh h) (ha : a.k = 6 → yW h a.r = true) (hia : VlIn a) (hiv : VlIn v) (hc : inH h c) : FnG Tryz.prog 65 [.bp 0 0,.agg (vlD a),.agg (vlD v),.v (.int .i64 c),.v (.bool true)] (hpO h) (.agg (stD (bdS h a v c true).1)) (hpO (bdS h a v c true).2) := by
 have hg5 := g.hi;obtain ⟨R,hR⟩ : ∃ R,R = bdS h a v c true := ⟨_,rfl⟩;rw [← hR];refine jE zM Tryz.func65 rfl rfl rfl rfl rfl rfl rfl ?_;intro w0 s0 mx;refine zL 100 ?_;refine zB (zV zM [] mK1 200 yR (by kernel_rfl) rfl ?_);refine zF ?_;refine yO _ (qM h a) rfl rfl ?_;refine zF ?_;refine zC (zA (zB (zQ ?_)));refine yK [0,3,4,6,7,10,11] [0,1,2,3,4,105] 210 [] [(105,.box 36 (obD (zR h a)))] ?_;refine ⟨⟨yH,⟨⟨rfl,SubL.same rfl⟩,yG⟩,rfl,rfl⟩,?_⟩;refine zB (zV zM [] mK16 300 yR (by kernel_rfl) rfl ?_);repeat (first | refine zG ?_ | refine zH ?_ | refine qU ?_ | refine vT ?_ | refine vU ?_)
 refine zP0 _ (fun hg6 => wZ h a) rfl rfl ?_;repeat (first | refine zG ?_ | refine zH ?_ | refine qU ?_ | refine vT ?_ | refine vU ?_)
 refine zC (zA (zS rfl (fun c2 => ?_) (fun c2 => ?_)))
 ·have c2 : kR h a = true := by simpa using c2
  refine zB (zE zM [1033] 400 rfl ?_);refine zF ?_;refine yJ _ _ ((uR0 h (mtO a v) (by omega)).args ⟨Sub.refl _,Sub.ofP (SubP.agg ⟨SubP.refl _,SubP.refl _,SubP.refl _,SubP.nilSl rfl,SubP.nilSl rfl,SubP.nilSl rfl,SubP.slrSl rfl,SubP.nilSl rfl,SubP.refl _,SubP.refl _,trivial⟩) rfl rfl,trivial⟩) rfl ?_;refine zF ?_;refine zT _ (qY _) rfl ?_;refine zF ?_;refine zC (zA (zJ (zN (zK ?_))));have hn : R = newS h (mtO a v) := by
   rw [hR];unfold bdS;rw [if_pos (by rw [c2];rfl)]
  subst hn;exact xE
 ·have c2 : kR h a = false := by simpa using c2
  refine zL 500 ?_;refine zY (fun c4 => ?_) (fun c4 => ?_)
  ·
   refine zB (zE zM [] 600 rfl ?_);repeat (first | refine zG ?_ | refine zH ?_ | refine kF0 ?_)
   refine zT _ (qY _) rfl ?_;repeat (first | refine zG ?_ | refine zH ?_ | refine kF0 ?_)
   refine zC (zA (zJ (zN (zK ?_))));have hn : R = (vlS ((zR h a).items.getD 0 vl0),h) := by
    rw [hR];unfold bdS;rw [if_neg (by rw [c2];decide),if_pos c4]
   subst hn;exact xE
  ·
   refine zL 700 ?_;refine zY (fun c6 => ?_) (fun c6 => ?_)
   ·
    refine zB (zV zM [1057] mK17 800 yR (by kernel_rfl) rfl ?_);repeat (first | refine zG ?_ | refine zH ?_ | refine bF ?_)
    refine zT _ (O_ok _) rfl ?_;repeat (first | refine zG ?_ | refine zH ?_ | refine bF ?_)
    refine yJ _ _ ((uR0 h (mtO ((zR h a).items.getD 0 vl0) (rfV c)) (by omega)).args ⟨Sub.refl _,Sub.ofP (SubP.agg ⟨SubP.refl _,SubP.refl _,SubP.refl _,SubP.nilSl rfl,SubP.nilSl rfl,SubP.nilSl rfl,SubP.slrSl rfl,SubP.nilSl rfl,SubP.refl _,SubP.refl _,trivial⟩) rfl rfl,trivial⟩) rfl ?_;repeat (first | refine zG ?_ | refine zH ?_ | refine bF ?_)
    refine zT _ (qY _) rfl ?_;repeat (first | refine zG ?_ | refine zH ?_ | refine bF ?_)
    refine zC (zA (zJ (zN (zK ?_))));have hn : R = newS h (mtO ((zR h a).items.getD 0 vl0) (rfV c)) := by
     rw [hR];unfold bdS;rw [if_neg (by rw [c2];decide),if_neg c4,if_pos c6]
    subst hn;exact xE
   ·
    refine zO (zP (zA (zB (zL 900 ?_))));refine uW rfl ?_;refine zO (zA (zB ?_));refine zB (zV zM [] mK5 1100 yR (by kernel_rfl) rfl ?_);refine zF ?_;refine zT _ (O_ok _) rfl ?_;refine zF ?_;refine yO _ ((gB h a onR [v,rfV c] hh g ha (by show 2 ≤ 1000000;decide)).args ⟨SubP.refl _,SubP.refl _,SubP.refl _,SubP.slrSl (m := false) rfl,trivial⟩) rfl rfl ?_;refine zF ?_;refine zC (zA (zL 1200 ?_));refine zS rfl (fun c11 => ?_) (fun c11 => ?_)
    ·have c11w : (spS h a onR).2.2 = true := by simpa using c11
     refine zL 1300 ?_;refine zJ (zK ?_);have hn : R = (caS (spS h a onR).1 ((spS h a onR).2.1 ++ [v,rfV c]),h) := by
      rw [hR];unfold bdS;rw [if_neg (by rw [c2];decide),if_neg c4,if_neg c6,if_pos c11w];rfl
     subst hn;exact xE
    ·have c11w : (spS h a onR).2.2 = false := by simpa using c11
     refine zO (zA ?_);refine zB (zE zM [] 1400 rfl ?_);refine zF ?_;refine zT _ (qY _) rfl ?_;refine zF ?_;refine zC (zA (zJ ?_));have hn : R = (vlS a,h) := by
      rw [hR];unfold bdS;rw [if_neg (by rw [c2];decide),if_neg c4,if_neg c6,if_neg (by rw [c11w];decide)]
     subst hn;exact xE
theorem dT0 (h : List Ob) (a v : Vl) (c : Int) (hh : HpIn h) (g : Uh h) (ha : a.k = 6 → yW h a.r = true) (hia : VlIn a) (hiv : VlIn v) (hc : inH h c) : FnG Tryz.prog 65 [.bp 0 0,.agg (vlD a),.agg (vlD v),.v (.int .i64 c),.v (.bool false)] (hpO h) (.agg (stD (bdS h a v c false).1)) (hpO (bdS h a v c false).2) := by
 have hg5 := g.hi;obtain ⟨R,hR⟩ : ∃ R,R = bdS h a v c false := ⟨_,rfl⟩;rw [← hR];refine jE zM Tryz.func65 rfl rfl rfl rfl rfl rfl rfl ?_;intro w0 s0 mx;refine zL 100 ?_;refine zB (zV zM [] mK1 200 yR (by kernel_rfl) rfl ?_);refine zF ?_;refine yO _ (qM h a) rfl rfl ?_;refine zF ?_;refine zC (zA (zB (zQ ?_)));refine yK [0,3,4,6,7,10,11] [0,1,2,3,4,105] 210 [] [(105,.box 36 (obD (zR h a)))] ?_;refine ⟨⟨yH,⟨⟨rfl,SubL.same rfl⟩,yG⟩,rfl,rfl⟩,?_⟩;refine zB (zV zM [] mK16 300 yR (by kernel_rfl) rfl ?_);repeat (first | refine zG ?_ | refine zH ?_ | refine qU ?_ | refine vT ?_ | refine vU ?_)
 refine bJ (.v (.bool false)) rfl ?_;repeat (first | refine zG ?_ | refine zH ?_ | refine qU ?_ | refine vT ?_ | refine vU ?_)
 refine zC (zA (zS rfl (fun c2 => ?_) (fun c2 => ?_)))
 ·
  exact absurd c2 (by simp)
 ·
  refine zL 500 ?_;refine zY (fun c4 => ?_) (fun c4 => ?_)
  ·
   refine zB (zE zM [] 600 rfl ?_);repeat (first | refine zG ?_ | refine zH ?_ | refine kF0 ?_)
   refine zT _ (qY _) rfl ?_;repeat (first | refine zG ?_ | refine zH ?_ | refine kF0 ?_)
   refine zC (zA (zJ (zN (zK ?_))));have hn : R = (vlS ((zR h a).items.getD 0 vl0),h) := by
    rw [hR];unfold bdS;rw [if_neg (by simp),if_pos c4]
   subst hn;exact xE
  ·
   refine zL 700 ?_;refine zY (fun c6 => ?_) (fun c6 => ?_)
   ·
    refine zB (zV zM [1057] mK17 800 yR (by kernel_rfl) rfl ?_);repeat (first | refine zG ?_ | refine zH ?_ | refine bF ?_)
    refine zT _ (O_ok _) rfl ?_;repeat (first | refine zG ?_ | refine zH ?_ | refine bF ?_)
    refine yJ _ _ ((uR0 h (mtO ((zR h a).items.getD 0 vl0) (rfV c)) (by omega)).args ⟨Sub.refl _,Sub.ofP (SubP.agg ⟨SubP.refl _,SubP.refl _,SubP.refl _,SubP.nilSl rfl,SubP.nilSl rfl,SubP.nilSl rfl,SubP.slrSl rfl,SubP.nilSl rfl,SubP.refl _,SubP.refl _,trivial⟩) rfl rfl,trivial⟩) rfl ?_;repeat (first | refine zG ?_ | refine zH ?_ | refine bF ?_)
    refine zT _ (qY _) rfl ?_;repeat (first | refine zG ?_ | refine zH ?_ | refine bF ?_)
    refine zC (zA (zJ (zN (zK ?_))));have hn : R = newS h (mtO ((zR h a).items.getD 0 vl0) (rfV c)) := by
     rw [hR];unfold bdS;rw [if_neg (by simp),if_neg c4,if_pos c6]
    subst hn;exact xE
   ·
    refine zO (zP (zA (zB (zL 900 ?_))));refine dU rfl ?_;refine yT zM [] 1000 ?_;refine zA (zB ?_);refine zB (zV zM [] mK5 1100 yR (by kernel_rfl) rfl ?_);refine zF ?_;refine zT _ (O_ok _) rfl ?_;refine zF ?_;refine yO _ ((gB h a onR [vl0,rfV c] hh g ha (by show 2 ≤ 1000000;decide)).args ⟨SubP.refl _,SubP.refl _,SubP.refl _,SubP.slrRows (by repeat (first | exact trivial | exact SubPs.refl _ | exact SubP.refl _ | exact SubP.nilSl rfl | refine ⟨?_,?_⟩)),trivial⟩) rfl rfl ?_;refine zF ?_;refine zC (zA (zL 1200 ?_));refine zS rfl (fun c11 => ?_) (fun c11 => ?_)
    ·have c11w : (spS h a onR).2.2 = true := by simpa using c11
     refine zL 1300 ?_;refine zJ (zK ?_);have hn : R = (caS (spS h a onR).1 ((spS h a onR).2.1 ++ [vl0,rfV c]),h) := by
      rw [hR];unfold bdS;rw [if_neg (by simp),if_neg c4,if_neg c6,if_pos c11w];rfl
     subst hn;exact xE
    ·have c11w : (spS h a onR).2.2 = false := by simpa using c11
     refine zO (zA ?_);refine zB (zE zM [] 1400 rfl ?_);refine zF ?_;refine zT _ (qY _) rfl ?_;refine zF ?_;refine zC (zA (zJ ?_));have hn : R = (vlS a,h) := by
      rw [hR];unfold bdS;rw [if_neg (by simp),if_neg c4,if_neg c6,if_neg (by rw [c11w];decide)]
     subst hn;exact xE
end Go.Proofs.YtbhndnphimmjjaaGreatDoor
