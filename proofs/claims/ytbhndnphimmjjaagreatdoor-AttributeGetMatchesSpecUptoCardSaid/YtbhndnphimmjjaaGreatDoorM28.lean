/- Part 28 of the proof. -/
import Derived.Test.YtbhndnphimmjjaaGreatDoorM26
import Derived.Test.YtbhndnphimmjjaaGreatDoorM27
namespace Go.Proofs.YtbhndnphimmjjaaGreatDoor
open Go.RowKit
variable {md me : Bool}
theorem jT {h : List Ob} (g : Uh h) {a : Vl} (hk : (zR h a).kind = 12) : (zR h a).items.length = 3 := by
 obtain ⟨h6,ho,e⟩ := jH (h := h) (v := a) (by omega);have hin := yQ ho;rw [e] at hk ⊢;by_cases h49 : a.r.toNat < 49
 ·rw [show yA h a.r = bgO a.r.toNat from g.lo_at h49] at hk;have h9 : (bgO a.r.toNat).kind = 9 := rfl;omega
 ·have u := g.hi_at (i := a.r.toNat) (by omega) hin.2;rw [← vW hin] at u;have hs := (qO0 u.shape).1;rw [xV 12 51 (by decide +kernel) hk] at hs;have : IntKind.i64.wrap (IntKind.u8.wrap (bU (jS 12) - 48)) = 3 := by decide +kernel
  omega
theorem cJ0 (s : ByteArray) : atB ++ s ++ ⟨#[39,32,99,97,110,110,111,116,32,98,101,32]⟩ ++ ⟨#[114,101,97,100]⟩ = atB ++ s ++ cnrB := by
 rw [ByteArray.append_assoc (a := atB ++ s)];rfl
theorem bG0 {P : Program} {K : DS → Prop} {p : Prop} {r : Out} (hr : r.sat P K) (hp : p := by first | exact ⟨hin.1,hin.2⟩ | exact ⟨rfl,hin.2⟩ | exact ⟨by simp [MR.len],by simpa [MR.len] using hin.2⟩ | rfl | (simp only [MR.len];done) | first | exact trivial | omega | exact ini (by omega) (by omega) | (intro hh;simp at hh;exact ini (by omega) (by omega)) | (intro hh;simp at hh ⊢;omega) | (simp at *;omega) | (simp_all;done)) : (Out.need p r).sat P K := ⟨hp,hr⟩
theorem gS {T : List (Nat × TI)} {rs : List ResultVar} {n0 : Nat} {out d : D} {own' : List DOwn} {S : DS} (hk : Nat.ble n0 2 = true := by rfl) (h : finH T S rs = some d := by rfl) (hs : Sub d (out.ren (qD (iota n0) 2)) := by exact Sub.ofP (SubP.agg (SubPs.refl _)) rfl rfl) (ho : gW (iota n0) 2 S.ow 0 own' := by exact ⟨⟨rfl,Sub.mo rfl,rfl,trivial⟩,SubO.mp rfl,trivial⟩) : FinH T rs n0 out own' .ret S := FinH.ret 2 hk h hs ho
theorem WithT_G (h : List Ob) (v a : Vl) (s : ByteArray) (hh : HpIn h) (g : Uh h) (hk : (zR h v).kind = 10) (hv : hasS h v = true) (ha : a.k = 6 → yW h a.r = true) (hia : VlIn a) (hiv : VlIn v) (hs : s.size ≤ 100) : FnG Tryz.prog 82 [.bp 0 0,.agg (vlD v),.v (.string s),.agg (vlD a),.v (.bool true)] (hpO h) (.agg (stD (wiS h v s a true).1)) (hpO (wiS h v s a true).2) := by
 have hg5 := g.hi;obtain ⟨R,hR⟩ : ∃ R,R = wiS h v s a true := ⟨_,rfl⟩;rw [← hR];obtain ⟨h6,hob,eo⟩ := jH (h := h) (v := v) (by omega);have hin := yQ hob;have hcin := uJ g hk;have hvr : v.k = 6 → yW h v.r = true := fun _ => hob;refine jE zM Tryz.func82 rfl rfl rfl rfl rfl rfl rfl ?_;intro w0 s0 mx;refine zL 100 ?_;refine zB (zV zM [] mK18 200 yR (by kernel_rfl) rfl ?_);repeat (first | refine zG ?_ | refine zH ?_ | refine bG0 ?_)
 refine zC (zA (zB ?_));refine yK [0,2,4,6,8,10,11] [0,1,2,3,4,108] 210 [] [(108,.box 36 (obD (zR h v)))] ?_;refine ⟨⟨yH,⟨⟨rfl,by rw [eo];exact SubL.same rfl⟩,yG⟩,rfl,rfl⟩,?_⟩;refine zB (zV zM [] mK1 300 yR (by kernel_rfl) rfl ?_);refine zF ?_;refine yO _ (yZ h a ha) rfl rfl ?_;refine zF ?_;refine zC (zA ?_);refine yK [0,2,4,6,8,10,11,12] [0,1,2,3,4,108,215] 310 [] [(215,.box 36 (obD (zR h a)))] ?_;refine ⟨⟨yH,⟨⟨rfl,SubL.same rfl⟩,yG⟩,rfl,rfl⟩,?_⟩;refine zL 400 ?_;refine zS rfl (fun c3 => ?_) (fun c3 => ?_)
 ·have c3w : (zR h a).kind = 12 := by simpa using c3
  refine zB (zE zM [] 500 rfl ?_);refine zF ?_;refine zT _ (jP0 (zR h a) v s (by rw [jT g c3w];decide) (by omega)) rfl ?_;refine zF ?_;refine zC (zA (zJ (zK ?_)));have hn : R = (gtS (zR h a) v s,h) := by
   rw [hR];unfold wiS;rw [if_pos ⟨rfl,c3w⟩]
  subst hn;exact gS
 ·have c3w : ¬ (zR h a).kind = 12 := by simpa using c3
  refine zO (zA (zB ?_));refine zB (zV zM [] mK19 600 yR (by kernel_rfl) rfl ?_);repeat (first | refine zG ?_ | refine zH ?_ | refine qU ?_ | refine vT ?_ | refine vU ?_)
  refine zP0 _ (fun hg7 => (pU0 h a [onR,onW] hh g ha).args ⟨SubP.refl _,SubP.refl _,SubP.slrSl (m := false) rfl,trivial⟩) rfl rfl ?_;repeat (first | refine zG ?_ | refine zH ?_ | refine qU ?_ | refine vT ?_ | refine vU ?_)
  refine zC (zA (zS rfl (fun c5 => ?_) (fun c5 => ?_)))
  ·have c5w : (spS h a onR).2.2 = true ∧ (spS h a onW).2.2 = true := by simpa using c5
   refine zB (zE zM [1054] 700 rfl ?_);refine zF ?_;refine yJ _ _ (wG0 h a v (zR h v).cls hh g ha hia hiv hcin) rfl ?_;refine zF ?_;refine zC (zA (zJ (zK ?_)));have hn : R = bdS h a v (zR h v).cls true := by
    rw [hR];unfold wiS;rw [if_neg (fun hh9 => c3w hh9.2),if_pos ⟨rfl,c5w⟩]
   subst hn;exact gS
  ·have c5w : ¬ ((spS h a onR).2.2 = true ∧ (spS h a onW).2.2 = true) := by simpa using c5
   refine zO (zA (zB ?_));refine zB (zE zM [] 800 rfl ?_);refine zF ?_;refine zT _ (gP (zR h v) s (wF g v)) rfl ?_;refine zF ?_;refine zC (zA (zL 900 ?_));refine zS rfl (fun c8 => ?_) (fun c8 => ?_)
   ·have c8w : ownB (zR h v) s = true := by simpa using c8
    refine zB (zE zM [] 1000 rfl ?_);refine zF ?_;refine zT _ (qI _) rfl ?_;refine zF ?_;refine zC (zA (zJ (zK ?_)));have hn : R = (vlS (ownV (zR h v) s),h) := by
     rw [hR];unfold wiS;rw [if_neg (fun hh9 => c3w hh9.2),if_neg (fun hh9 => c5w hh9.2),if_pos c8w]
    subst hn;exact gS
   ·have c8w : ownB (zR h v) s = false := by simpa using c8
    refine zO (zA (zB (zL 1100 ?_)));refine dU rfl ?_;refine zB (zE zM [1070] 1200 rfl ?_);refine zF ?_;refine yJ _ _ (wG0 h a v (zR h v).cls hh g ha hia hiv hcin) rfl ?_;refine zF ?_;refine zC (zA (zJ (zK ?_)));have hn : R = bdS h a v (zR h v).cls true := by
     rw [hR];unfold wiS;rw [if_neg (fun hh9 => c3w hh9.2),if_neg (fun hh9 => c5w hh9.2),if_neg (by rw [c8w];decide),if_pos rfl]
    subst hn;exact gS
theorem cU0 {P : Program} {K : DS → Prop} {p : Prop} {r : Out} (hr : r.sat P K) (hp : p := by first | exact fun hh9 => absurd hh9 (by decide) | exact ⟨by decide,by rw [jT g (by assumption)];decide⟩ | exact fun hh9 => ⟨by decide,by rw [jT g (by simpa using hh9)];decide⟩ | exact ⟨rfl,by rw [jT g (by assumption)];decide⟩ | exact fun hh9 => by rw [jT g (by simpa using hh9)];decide | first | exact trivial | omega | exact ini (by omega) (by omega) | (intro hh;simp at hh;exact ini (by omega) (by omega)) | (intro hh;simp at hh ⊢;omega) | (simp at *;omega) | (simp_all;done)) : (Out.need p r).sat P K := ⟨hp,hr⟩
theorem GottenT_G (h : List Ob) (v a : Vl) (s : ByteArray) (hh : HpIn h) (g : Uh h) (hk : (zR h v).kind = 10) (hv : hasS h v = true) (ha : a.k = 6 → yW h a.r = true) (hia : VlIn a) (hiv : VlIn v) (hs : s.size ≤ 100) : FnG Tryz.prog 60 [.bp 0 0,.agg (vlD v),.v (.string s),.agg (vlD a),.v (.bool true)] (hpO h) (.agg (stD (wiS h v s a true).1)) (hpO (wiS h v s a true).2) := by
 have hg5 := g.hi;obtain ⟨R,hR⟩ : ∃ R,R = wiS h v s a true := ⟨_,rfl⟩;rw [← hR];obtain ⟨h6,hob,eo⟩ := jH (h := h) (v := v) (by omega);have hin := yQ hob;have hcin := uJ g hk;have hvr : v.k = 6 → yW h v.r = true := fun _ => hob;refine jE zM Tryz.func60 rfl rfl rfl rfl rfl rfl rfl ?_;intro w0 s0 mx;refine zL 100 ?_;refine zB (zV zM [] mK1 200 yR (by kernel_rfl) rfl ?_);refine zF ?_;refine yO _ (qM h v) rfl rfl ?_;refine zF ?_;refine zC (zA ?_);refine yK [0,2,4,6,8,10,11] [0,1,2,3,4,105] 210 [] [(105,.box 36 (obD (zR h v)))] ?_;refine ⟨⟨yH,⟨⟨rfl,SubL.same rfl⟩,yG⟩,rfl,rfl⟩,?_⟩;refine zB (zE zM [] 300 rfl ?_);refine zF ?_;refine zT _ (gZ0 (zR h v) s (wF g v) (kD hh v).nl) rfl ?_;refine zF ?_;refine zC (zA ?_);refine zB (zV zM [] mK1 400 yR (by kernel_rfl) rfl ?_);refine zF ?_;refine yO _ (qM h a) rfl rfl ?_;refine zF ?_;refine zC (zA (zB (zQ ?_)));refine yK [0,2,4,6,8,10,11,12,13,14] [0,1,2,3,4,105,216,305] 410 [] [(305,.box 36 (obD (zR h a)))] ?_;refine ⟨⟨yH,⟨⟨rfl,SubL.same rfl⟩,yG⟩,rfl,rfl⟩,?_⟩;refine zB (zE zM [] 500 rfl ?_);repeat (first | refine zG ?_ | refine zH ?_ | refine cU0 ?_ | refine vT ?_ | refine vU ?_)
 refine zC (zA (zS rfl (fun c4 => ?_) (fun c4 => ?_)))
 ·have c4w : (zR h a).kind = 12 ∧ ((zR h a).items.getD 0 vl0).k = 0 := by simpa using c4
  refine zB (zE zM [] 600 rfl ?_);refine zF ?_;refine zT _ ((uK0 s ⟨#[114,101,97,100]⟩ (by omega) (by decide)).out (SubP.of_eq (by rw [cJ0]))) rfl ?_;refine zF ?_;refine zC (zA (zJ (zN (zK ?_))));have c3w := c4w.1;have hn : R = (raS 36 (atB ++ s ++ cnrB),h) := by
   rw [hR];unfold wiS;rw [if_pos ⟨rfl,c3w⟩,gtS,if_pos c4w.2]
  subst hn;exact gS
 ·have c4w : ¬ ((zR h a).kind = 12 ∧ ((zR h a).items.getD 0 vl0).k = 0) := by simpa using c4
  refine zL 700 ?_;refine zS rfl (fun c6 => ?_) (fun c6 => ?_)
  ·have c3w : (zR h a).kind = 12 := by simpa using c6
   have c3n : ¬ ((zR h a).items.getD 0 vl0).k = 0 := fun hh9 => c4w ⟨c3w,hh9⟩;refine zB (zV zM [] mK8 800 yR (by kernel_rfl) rfl ?_);repeat (first | refine zG ?_ | refine zH ?_ | refine cU0 ?_)
   refine zT _ ((tX _ [v]).args ⟨SubP.refl _,SubP.slrSl (m := false) rfl,trivial⟩) rfl ?_;repeat (first | refine zG ?_ | refine zH ?_ | refine cU0 ?_)
   refine zC (zA (zJ (zN (zK ?_))));have hn : R = (caS ((zR h a).items.getD 0 vl0) [v],h) := by
    rw [hR];unfold wiS;rw [if_pos ⟨rfl,c3w⟩,gtS,if_neg c3n]
   subst hn;exact gS
  ·have c3w : ¬ (zR h a).kind = 12 := by simpa using c6
   refine zB (zV zM [] mK20 900 yR (by kernel_rfl) rfl ?_);repeat (first | refine zG ?_ | refine zH ?_ | refine qU ?_ | refine vT ?_ | refine vU ?_)
   refine zP0 _ (fun hg7 => (hasAll_ok h a [onR,onW] hh g ha (by show 2 ≤ 1000;decide)).args ⟨SubP.refl _,SubP.refl _,SubP.slrSl (m := false) rfl,trivial⟩) rfl rfl ?_;repeat (first | refine zG ?_ | refine zH ?_ | refine qU ?_ | refine vT ?_ | refine vU ?_)
   refine zC (zA (zS rfl (fun c8 => ?_) (fun c8 => ?_)))
   ·have c5w : (spS h a onR).2.2 = true ∧ (spS h a onW).2.2 = true := by simpa using c8
    refine zB (zE zM [1079] 1000 rfl ?_);refine zF ?_;refine yJ _ _ (wH0 h a v (zR h v).cls hh g ha hia hiv hcin) rfl ?_;refine zF ?_;refine zC (zA (zJ (zN (zK ?_))));have hn : R = bdS h a v (zR h v).cls true := by
     rw [hR];unfold wiS;rw [if_neg (fun hh9 => c3w hh9.2),if_pos ⟨rfl,c5w⟩]
    subst hn;exact gS
   ·have c5w : ¬ ((spS h a onR).2.2 = true ∧ (spS h a onW).2.2 = true) := by simpa using c8
    refine zL 1100 ?_;refine zS rfl (fun c10 => ?_) (fun c10 => ?_)
    ·have c10w : ownB (zR h v) s = true := by simpa using c10
     refine zB (zE zM [] 1200 rfl ?_);refine zF ?_;refine zT _ (qY _) rfl ?_;refine zF ?_;refine zC (zA (zJ (zN (zK ?_))));have hn : R = (vlS (ownV (zR h v) s),h) := by
      rw [hR];unfold wiS;rw [if_neg (fun hh9 => c3w hh9.2),if_neg (fun hh9 => c5w hh9.2),if_pos c10w]
     subst hn;exact gS
    ·have c10w : ownB (zR h v) s = false := by simpa using c10
     refine zL 1300 ?_;refine dU rfl ?_;refine zB (zE zM [1091] 1400 rfl ?_);refine zF ?_;refine yJ _ _ (wH0 h a v (zR h v).cls hh g ha hia hiv hcin) rfl ?_;refine zF ?_;refine zC (zA (zJ (zN (zK ?_))));have hn : R = bdS h a v (zR h v).cls true := by
      rw [hR];unfold wiS;rw [if_neg (fun hh9 => c3w hh9.2),if_neg (fun hh9 => c5w hh9.2),if_neg (by rw [c10w];decide),if_pos rfl]
     subst hn;exact gS
theorem WithF_G (h : List Ob) (v a : Vl) (s : ByteArray) (hh : HpIn h) (g : Uh h) (hk : (zR h v).kind = 10) (hv : hasS h v = true) (ha : a.k = 6 → yW h a.r = true) (hia : VlIn a) (hiv : VlIn v) (hs : s.size ≤ 100) : FnG Tryz.prog 82 [.bp 0 0,.agg (vlD v),.v (.string s),.agg (vlD a),.v (.bool false)] (hpO h) (.agg (stD (wiS h v s a false).1)) (hpO (wiS h v s a false).2) := by
 have hg5 := g.hi;obtain ⟨R,hR⟩ : ∃ R,R = wiS h v s a false := ⟨_,rfl⟩;rw [← hR];obtain ⟨h6,hob,eo⟩ := jH (h := h) (v := v) (by omega);have hin := yQ hob;have hcin := uJ g hk;have hvr : v.k = 6 → yW h v.r = true := fun _ => hob;refine jE zM Tryz.func82 rfl rfl rfl rfl rfl rfl rfl ?_;intro w0 s0 mx;refine zL 100 ?_;refine zB (zV zM [] mK18 200 yR (by kernel_rfl) rfl ?_);repeat (first | refine zG ?_ | refine zH ?_ | refine bG0 ?_)
 refine zC (zA (zB ?_));refine yK [0,2,4,6,8,10,11] [0,1,2,3,4,108] 210 [] [(108,.box 36 (obD (zR h v)))] ?_;refine ⟨⟨yH,⟨⟨rfl,by rw [eo];exact SubL.same rfl⟩,yG⟩,rfl,rfl⟩,?_⟩;refine zB (zV zM [] mK1 300 yR (by kernel_rfl) rfl ?_);refine zF ?_;refine yO _ (yZ h a ha) rfl rfl ?_;refine zF ?_;refine zC (zA ?_);refine yK [0,2,4,6,8,10,11,12] [0,1,2,3,4,108,215] 310 [] [(215,.box 36 (obD (zR h a)))] ?_;refine ⟨⟨yH,⟨⟨rfl,SubL.same rfl⟩,yG⟩,rfl,rfl⟩,?_⟩;refine zL 400 ?_;refine uW rfl ?_;refine zO (zA (zB ?_));refine zB (zV zM [] mK19 600 yR (by kernel_rfl) rfl ?_);repeat (first | refine zG ?_ | refine zH ?_ | refine qU ?_ | refine vT ?_ | refine vU ?_)
 refine bJ (.v (.bool false)) rfl ?_;repeat (first | refine zG ?_ | refine zH ?_ | refine qU ?_ | refine vT ?_ | refine vU ?_)
 refine zC (zA ?_);refine uW rfl ?_;refine zO (zA (zB ?_));refine zB (zE zM [] 800 rfl ?_);refine zF ?_;refine zT _ (gP (zR h v) s (wF g v)) rfl ?_;refine zF ?_;refine zC (zA (zL 900 ?_));refine zS rfl (fun c8 => ?_) (fun c8 => ?_)
 ·have c8w : ownB (zR h v) s = true := by simpa using c8
  refine zB (zE zM [] 1000 rfl ?_);refine zF ?_;refine zT _ (qI _) rfl ?_;refine zF ?_;refine zC (zA (zJ (zK ?_)));have hn : R = (vlS (ownV (zR h v) s),h) := by
   rw [hR];unfold wiS;rw [if_neg (fun hh9 => by cases hh9.1),if_neg (fun hh9 => by cases hh9.1),if_pos c8w]
  subst hn;exact gS
 ·have c8w : ownB (zR h v) s = false := by simpa using c8
  refine zO (zA (zB (zL 1100 ?_)));refine uW rfl ?_;refine zO (zA (zB ?_));refine zB (zV zM [] mK21 1300 yR (by kernel_rfl) rfl ?_);refine zF ?_;refine zT _ (uS _) rfl ?_;refine zF ?_;refine yO _ ((gA h v onM [txV s] hh g hvr (by show 1 ≤ 1000000;decide)).args ⟨SubP.refl _,SubP.refl _,SubP.refl _,SubP.slrSl (m := false) rfl,trivial⟩) rfl rfl ?_;refine zF ?_;refine zC (zA (zL 1400 ?_));refine zS rfl (fun c13 => ?_) (fun c13 => ?_)
  ·have c13w : (spS h v onM).2.2 = true := by simpa using c13
   refine zL 1500 ?_;refine zJ (zK ?_);have hn : R = (caS (spS h v onM).1 ((spS h v onM).2.1 ++ [txV s]),h) := by
    rw [hR];unfold wiS;rw [if_neg (fun hh9 => by cases hh9.1),if_neg (fun hh9 => by cases hh9.1),if_neg (by rw [c8w];decide),if_neg (by decide),if_pos c13w]
   subst hn;exact gS
  ·have c13w : (spS h v onM).2.2 = false := by simpa using c13
   refine zO (zA ?_);refine zB (zV zM [] mK2 1600 yR (by kernel_rfl) rfl ?_);refine zF ?_;refine yO _ (pY h v s g (wF0 g hv) (by omega) (by omega) (by omega)) rfl rfl ?_;refine zF ?_;refine zC (zA (zJ ?_));have hn : R = (lkS h v s,h) := by
    rw [hR];unfold wiS;rw [if_neg (fun hh9 => by cases hh9.1),if_neg (fun hh9 => by cases hh9.1),if_neg (by rw [c8w];decide),if_neg (by decide),if_neg (by rw [c13w];decide)]
   subst hn;exact gS
theorem GottenF_G (h : List Ob) (v a : Vl) (s : ByteArray) (hh : HpIn h) (g : Uh h) (hk : (zR h v).kind = 10) (hv : hasS h v = true) (ha : a.k = 6 → yW h a.r = true) (hia : VlIn a) (hiv : VlIn v) (hs : s.size ≤ 100) : FnG Tryz.prog 60 [.bp 0 0,.agg (vlD v),.v (.string s),.agg (vlD a),.v (.bool false)] (hpO h) (.agg (stD (wiS h v s a false).1)) (hpO (wiS h v s a false).2) := by
 have hg5 := g.hi;obtain ⟨R,hR⟩ : ∃ R,R = wiS h v s a false := ⟨_,rfl⟩;rw [← hR];obtain ⟨h6,hob,eo⟩ := jH (h := h) (v := v) (by omega);have hin := yQ hob;have hcin := uJ g hk;have hvr : v.k = 6 → yW h v.r = true := fun _ => hob;refine jE zM Tryz.func60 rfl rfl rfl rfl rfl rfl rfl ?_;intro w0 s0 mx;refine zL 100 ?_;refine zB (zV zM [] mK1 200 yR (by kernel_rfl) rfl ?_);refine zF ?_;refine yO _ (qM h v) rfl rfl ?_;refine zF ?_;refine zC (zA ?_);refine yK [0,2,4,6,8,10,11] [0,1,2,3,4,105] 210 [] [(105,.box 36 (obD (zR h v)))] ?_;refine ⟨⟨yH,⟨⟨rfl,SubL.same rfl⟩,yG⟩,rfl,rfl⟩,?_⟩;refine zB (zE zM [] 300 rfl ?_);refine zF ?_;refine zT _ (gZ0 (zR h v) s (wF g v) (kD hh v).nl) rfl ?_;refine zF ?_;refine zC (zA ?_);refine zB (zV zM [] mK1 400 yR (by kernel_rfl) rfl ?_);refine zF ?_;refine yO _ (qM h a) rfl rfl ?_;refine zF ?_;refine zC (zA (zB (zQ ?_)));refine yK [0,2,4,6,8,10,11,12,13,14] [0,1,2,3,4,105,216,305] 410 [] [(305,.box 36 (obD (zR h a)))] ?_;refine ⟨⟨yH,⟨⟨rfl,SubL.same rfl⟩,yG⟩,rfl,rfl⟩,?_⟩;refine zB (zE zM [] 500 rfl ?_);repeat (first | refine zG ?_ | refine zH ?_ | refine zU (by first | exact (fun hh9 => by simp at hh9) | first | exact trivial | omega | exact ini (by omega) (by omega) | (intro hh;simp at hh;exact ini (by omega) (by omega)) | (intro hh;simp at hh ⊢;omega) | (simp at *;omega) | (simp_all;done)) ?_ | refine vT ?_ | refine vU ?_)
 refine zC (zA ?_);refine uW rfl ?_;refine zL 700 ?_;refine uW rfl ?_;refine zB (zV zM [] mK20 900 yR (by kernel_rfl) rfl ?_);repeat (first | refine zG ?_ | refine zH ?_ | refine qU ?_ | refine vT ?_ | refine vU ?_)
 refine bJ (.v (.bool false)) rfl ?_;repeat (first | refine zG ?_ | refine zH ?_ | refine qU ?_ | refine vT ?_ | refine vU ?_)
 refine zC (zA ?_);refine uW rfl ?_;refine zL 1100 ?_;refine zS rfl (fun c10 => ?_) (fun c10 => ?_)
 ·have c10w : ownB (zR h v) s = true := by simpa using c10
  refine zB (zE zM [] 1200 rfl ?_);refine zF ?_;refine zT _ (qY _) rfl ?_;refine zF ?_;refine zC (zA (zJ (zN (zK ?_))));have hn : R = (vlS (ownV (zR h v) s),h) := by
   rw [hR];unfold wiS;rw [if_neg (fun hh9 => by cases hh9.1),if_neg (fun hh9 => by cases hh9.1),if_pos c10w]
  subst hn;exact gS
 ·have c10w : ownB (zR h v) s = false := by simpa using c10
  refine zL 1300 ?_;refine uW rfl ?_;refine zO (zP (zA (zB ?_)));refine zB (zV zM [] mK21 1500 yR (by kernel_rfl) rfl ?_);refine zF ?_;refine zT _ (T_ok _) rfl ?_;refine zF ?_;refine yO _ ((gB h v onM [txV s] hh g hvr (by show 1 ≤ 1000000;decide)).args ⟨SubP.refl _,SubP.refl _,SubP.refl _,SubP.slrSl (m := false) rfl,trivial⟩) rfl rfl ?_;refine zF ?_;refine zC (zA (zL 1600 ?_));refine zS rfl (fun c15 => ?_) (fun c15 => ?_)
  ·have c15w : (spS h v onM).2.2 = true := by simpa using c15
   refine zL 1700 ?_;refine zJ (zK ?_);have hn : R = (caS (spS h v onM).1 ((spS h v onM).2.1 ++ [txV s]),h) := by
    rw [hR];unfold wiS;rw [if_neg (fun hh9 => by cases hh9.1),if_neg (fun hh9 => by cases hh9.1),if_neg (by rw [c10w];decide),if_neg (by decide),if_pos c15w]
   subst hn;exact gS
  ·have c15w : (spS h v onM).2.2 = false := by simpa using c15
   refine zO (zA ?_);refine zB (zV zM [] mK2 1800 yR (by kernel_rfl) rfl ?_);refine zF ?_;refine yO _ (dX h v s g (wF0 g hv) (by omega)) rfl rfl ?_;refine zF ?_;refine zC (zA (zJ ?_));have hn : R = (lkS h v s,h) := by
    rw [hR];unfold wiS;rw [if_neg (fun hh9 => by cases hh9.1),if_neg (fun hh9 => by cases hh9.1),if_neg (by rw [c10w];decide),if_neg (by decide),if_neg (by rw [c15w];decide)]
   subst hn;exact gS
theorem With_G (h : List Ob) (v a : Vl) (s : ByteArray) (ok : Bool) (hh : HpIn h) (g : Uh h) (hk : (zR h v).kind = 10) (hv : hasS h v = true) (ha : a.k = 6 → yW h a.r = true) (hia : VlIn a) (hiv : VlIn v) (hs : s.size ≤ 100) : FnG Tryz.prog 82 [.bp 0 0,.agg (vlD v),.v (.string s),.agg (vlD a),.v (.bool ok)] (hpO h) (.agg (stD (wiS h v s a ok).1)) (hpO (wiS h v s a ok).2) := by
 cases ok
 ·exact WithF_G h v a s hh g hk hv ha hia hiv hs
 ·exact WithT_G h v a s hh g hk hv ha hia hiv hs
theorem Gotten_G (h : List Ob) (v a : Vl) (s : ByteArray) (ok : Bool) (hh : HpIn h) (g : Uh h) (hk : (zR h v).kind = 10) (hv : hasS h v = true) (ha : a.k = 6 → yW h a.r = true) (hia : VlIn a) (hiv : VlIn v) (hs : s.size ≤ 100) : FnG Tryz.prog 60 [.bp 0 0,.agg (vlD v),.v (.string s),.agg (vlD a),.v (.bool ok)] (hpO h) (.agg (stD (wiS h v s a ok).1)) (hpO (wiS h v s a ok).2) := by
 cases ok
 ·exact GottenF_G h v a s hh g hk hv ha hia hiv hs
 ·exact GottenT_G h v a s hh g hk hv ha hia hiv hs
theorem ofInstance_G (h : List Ob) (v : Vl) (s : ByteArray) (hh : HpIn h) (g : Uh h) (hk : (zR h v).kind = 10) (hv : hasS h v = true) (hiv : VlIn v) (hs : s.size ≤ 100) : FnG Tryz.prog 30 [.bp 0 0,.agg (vlD v),.v (.string s)] (hpO h) (.agg (stD (wiS h v s (fdV h s (fdO h (yA h (zR h v).cls).order s)) (fdO h (yA h (zR h v).cls).order s).isSome).1)) (hpO (wiS h v s (fdV h s (fdO h (yA h (zR h v).cls).order s)) (fdO h (yA h (zR h v).cls).order s).isSome).2) := by
 have hg5 := g.hi;obtain ⟨h6,hob,eo⟩ := jH (h := h) (v := v) (by omega);have hin := yQ hob;have hcin := uJ g hk;have hfr := fun hk9 => kO0 hh g hcin s hk9;have hfi := (tY g hh (L := (yA h (zR h v).cls).order) (fun r hr => ((vP hh g hcin).2 r hr).1) s).1.vin;have hfind := kS (md := true) h (zR h v).cls s hh hcin (vP hh g hcin);have hwith := With_G h v (fdV h s (fdO h (yA h (zR h v).cls).order s)) s (fdO h (yA h (zR h v).cls).order s).isSome hh g hk hv hfr hfi hiv hs;rw [eo] at hfind hwith ⊢;refine jE zM Tryz.func30 rfl rfl rfl rfl rfl rfl rfl ?_;intro w0 s0 mx;refine zL 100 ?_;refine zB (zV zM [] [[],[0],[0,1],[],[3],[3,4],[3,4,5],[],[7],[3,4,5,6,7,8],[3,4,5,6,7,8,9],[3,4,5,6,7,8,9,10],[],(rgN 13),(rgN 14),(rgN 15),(rgN 15),(rgN 15),[],[0,1,2,3,4,5,6,7,8,9,10,11,12,13,14,15,18],[0,1,2,3,4,5,6,7,8,9,10,11,12,13,14,15,16,18,19],(rgN 21)] 200 yR (by kernel_rfl) rfl ?_);repeat (first | refine zG ?_ | refine zH ?_ | refine bG0 ?_)
 refine yO _ (hfind) rfl rfl ?_;repeat (first | refine zG ?_ | refine zH ?_ | refine bG0 ?_)
 refine zC (zA ?_);refine zB (zE zM [1033] 300 rfl ?_);refine zF ?_;refine yJ _ _ (hwith) rfl ?_;refine zF ?_;refine zC (zA (zJ ?_));exact gS
end Go.Proofs.YtbhndnphimmjjaaGreatDoor
