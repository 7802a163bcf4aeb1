/- Part 30 of the proof. -/
import Derived.Test.YtbhndnphimmjjaaGreatDoorM29
namespace Go.Proofs.YtbhndnphimmjjaaGreatDoor
open Go.RowKit
variable {md me : Bool}
theorem gK0 (l : List Int) (k : Nat) : (l.drop k).getD (Int.toNat 0) 0 = l.getD k 0 := by
 show (l.drop k).getD 0 0 = _;rw [List.getD_eq_getElem?_getD,List.getElem?_drop,List.getD_eq_getElem?_getD];rfl
theorem cI0 (h : List Ob) (a v : Vl) (c : Int) (b : Bool) (hh : HpIn h) (g : Uh h) (ha : a.k = 6 → yW h a.r = true) (hia : VlIn a) (hiv : VlIn v) (hc : inH h c) : FnG Tryz.prog 65 [.bp 0 0,.agg (vlD a),.agg (vlD v),.v (.int .i64 c),.v (.bool b)] (hpO h) (.agg (stD (bdS h a v c b).1)) (hpO (bdS h a v c b).2) := by
 cases b
 ·exact dT0 h a v c hh g ha hia hiv hc
 ·exact wH0 h a v c hh g ha hia hiv hc
theorem zZ1 {P : Program} {K : DS → Prop} {p : Prop} {r : Out} (hr : r.sat P K) (hp : p := by first | exact ⟨by rw [← hCt];exact hsin.1,by rw [← hCt];exact hsin.2⟩ | exact ⟨hsin.1,hsin.2⟩ | exact ⟨rfl,hsin.2⟩ | exact ⟨by simp [MR.len],by simpa [MR.len] using hsin.2⟩ | rfl | (simp only [MR.len];done) | first | exact trivial | omega | exact ini (by omega) (by omega) | (intro hh;simp at hh;exact ini (by omega) (by omega)) | (intro hh;simp at hh ⊢;omega) | (simp at *;omega) | (simp_all;done)) : (Out.need p r).sat P K := ⟨hp,hr⟩
theorem zY1 {P : Program} {K : DS → Prop} {p : Prop} {r : Out} (hr : r.sat P K) (hp : p := by first | exact ⟨by decide,by rw [hl2];decide⟩ | exact ⟨rfl,by rw [hl2];decide⟩ | exact ⟨by decide,by rw [List.length_drop];show 0 < _;omega⟩ | exact ⟨rfl,by rw [List.length_drop];show 0 < _;omega⟩ | first | exact trivial | omega | exact ini (by omega) (by omega) | (intro hh;simp at hh;exact ini (by omega) (by omega)) | (intro hh;simp at hh ⊢;omega) | (simp at *;omega) | (simp_all;done)) : (Out.need p r).sat P K := ⟨hp,hr⟩
theorem kC0 {P : Program} {K : DS → Prop} {p : Prop} {r : Out} (hr : r.sat P K) (hp : p := by first | (rw [List.length_drop];omega) | exact ⟨by decide,by rw [List.length_drop];omega,Int.le_refl _⟩ | exact ⟨by decide,by rw [List.length_drop];omega⟩ | first | exact trivial | omega | exact ini (by omega) (by omega) | (intro hh;simp at hh;exact ini (by omega) (by omega)) | (intro hh;simp at hh ⊢;omega) | (simp at *;omega) | (simp_all;done)) : (Out.need p r).sat P K := ⟨hp,hr⟩
theorem bF0 {P : Program} {K : DS → Prop} {p : Prop} {r : Out} (hr : r.sat P K) (hp : p := by first | (simp only [ByteArray.size_append,kbs,List.size_toArray,List.length_cons,List.length_nil];omega) | first | exact trivial | omega | exact ini (by omega) (by omega) | (intro hh;simp at hh;exact ini (by omega) (by omega)) | (intro hh;simp at hh ⊢;omega) | (simp at *;omega) | (simp_all;done)) : (Out.need p r).sat P K := ⟨hp,hr⟩
theorem cT0 {P : Program} {K : DS → Prop} {p : Prop} {r : Out} (hr : r.sat P K) (hp : p := by first | exact fun hh9 => absurd hh9 (by decide) | exact ⟨by decide,by rw [jT g (by assumption)];decide⟩ | exact fun hh9 => ⟨by decide,by rw [jT g (by simpa using hh9)];decide⟩ | exact ⟨rfl,by rw [jT g (by assumption)];decide⟩ | exact fun hh9 => by rw [jT g (by simpa using hh9)];decide | first | exact trivial | omega | exact ini (by omega) (by omega) | (intro hh;simp at hh;exact ini (by omega) (by omega)) | (intro hh;simp at hh ⊢;omega) | (simp at *;omega) | (simp_all;done)) : (Out.need p r).sat P K := ⟨hp,hr⟩
theorem mO {T : List (Nat × TI)} {rs : List ResultVar} {n0 : Nat} {out d : D} {own' : List DOwn} {S : DS} (hk : Nat.ble n0 2 = true := by rfl) (h : finH T S rs = some d := by rfl) (hs : Sub d (out.ren (qD (iota n0) 2)) := by exact Sub.ofP (SubP.agg (SubPs.refl _)) rfl rfl) (ho : gW (iota n0) 2 S.ow 0 own' := by exact ⟨⟨rfl,Sub.mo rfl,rfl,trivial⟩,SubO.mp rfl,trivial⟩) : FinH T rs n0 out own' .ret S := FinH.ret 2 hk h hs ho
set_option maxHeartbeats 2000000 in
theorem upward_G (h : List Ob) (v : Vl) (s : ByteArray) (hh : HpIn h) (g : Uh h) (hk : (zR h v).kind = 15) (hs : s.size ≤ 100) : FnG Tryz.prog 66 [.bp 0 0,.agg (obD (zR h v)),.v (.string s)] (hpO h) (.agg (stD (upS h (zR h v) s).1)) (hpO (upS h (zR h v) s).2) := by
 have hg5 := g.hi;obtain ⟨R,hR⟩ : ∃ R,R = upS h (zR h v) s := ⟨_,rfl⟩;rw [← hR];obtain ⟨hl2,hsin,hsh,hs109⟩ := zO0 g hk;obtain ⟨h6,hob,eo⟩ := jH (h := h) (v := v) (by omega);have hin := yQ hob;have hz := gZ;have hwm : ((zR h v).items.getD 1 vl0) ∈ (zR h v).items := by
  rw [List.getD_eq_getElem?_getD,List.getElem?_eq_getElem (by omega)];exact List.getElem_mem _
 have hwr : ((zR h v).items.getD 1 vl0).k = 6 → yW h ((zR h v).items.getD 1 vl0).r = true := fun hk9 => g.items hin (by rw [← eo];exact hwm) hk9;have hwi := (vD (wH g hh v) 1).1.vin;obtain ⟨C,hC⟩ : ∃ C,C = suC h (zR h v) := ⟨_,rfl⟩;have hCe : suC h (zR h v) = if (zR h ((zR h v).items.getD 1 vl0)).kind = 10 then (zR h ((zR h v).items.getD 1 vl0)).cls else ((zR h v).items.getD 1 vl0).r := rfl;rw [← hC] at hsin hsh hCe;have hrg := pQ0 hsh;have hol := (hh.at C).ol;have hck := dX0 hh g hsin ((zR h v).items.getD 0 vl0).r;have hsa : suA h (zR h v) s = fdO h (aftL (yA h C).order ((zR h v).items.getD 0 vl0).r) s := by unfold suA;rw [← hC]
 obtain ⟨A,hA⟩ : ∃ A,A = fdV h s (suA h (zR h v) s) := ⟨_,rfl⟩;obtain ⟨S,hS⟩ : ∃ S,S = suA h (zR h v) s := ⟨_,rfl⟩;have har : A.k = 6 → yW h A.r = true := fun hk9 => by
  rw [hA,hsa] at hk9 ⊢
  cases hf : fdO h (aftL (yA h C).order ((zR h v).items.getD 0 vl0).r) s with
  | none => rw [hf] at hk9;exact absurd hk9 (show ¬ (0 : Int) = 6 by decide)
  | some r =>
   rw [hf] at hk9;exact pD0 g (hck.2 r (List.mem_of_find?_eq_some hf)).1 s hk9
 have hai : VlIn A := by rw [hA,hsa];exact (tY g hh (fun r hr => (hck.2 r hr).1) s).1.vin
 rw [← hS] at hA hsa;obtain ⟨N,hN⟩ : ∃ N,N = ((zR h v).items.getD 0 vl0).r := ⟨_,rfl⟩;rw [← hN] at hrg hsa hsh;refine jE zM Tryz.func66 rfl rfl rfl rfl rfl rfl rfl ?_;intro w0 s0 mx;refine zL 100 ?_;refine zB (zE zM [] 200 rfl ?_);repeat (first | refine zG ?_ | refine zH ?_ | refine zU (by first | exact ⟨by decide,by rw [hl2];decide⟩ | exact ⟨rfl,by rw [hl2];decide⟩ | first | exact trivial | omega | exact ini (by omega) (by omega) | (intro hh;simp at hh;exact ini (by omega) (by omega)) | (intro hh;simp at hh ⊢;omega) | (simp at *;omega) | (simp_all;done)) ?_)
 refine zC (zA ?_);refine yK [0,2,4,6,7] [0,1,2,3,104] 210 [] [(104,.box 29 (vlD ((zR h v).items.getD 1 vl0)))] ?_;refine ⟨⟨yH,⟨⟨rfl,SubL.same rfl⟩,yG⟩,rfl,rfl⟩,?_⟩;refine zB (zV zM [] mK1 300 yR (by kernel_rfl) rfl ?_);refine zF ?_;refine yO _ (qM h ((zR h v).items.getD 1 vl0)) rfl rfl ?_;refine zF ?_;refine zC (zA ?_);refine zB (zV zM [] [[],[0],[],[2],[2,3],[0,1],(rgN 6)] 400 yR (by kernel_rfl) rfl ?_);refine zF ?_;refine zC (zA (zB (zL 500 ?_)));refine zS rfl (fun c4 => ?_) (fun c4 => ?_)
 ·have c4w : (zR h ((zR h v).items.getD 1 vl0)).kind = 10 := by simpa using c4
  rw [if_pos c4w] at hCe;refine yT zM [] 600 ?_;refine zA ?_;refine yK [0,2,4,6,7] [0,1,2,3,104] 610 [(9,.v (.int .i64 C)),(10,.v (.bool true))] [(215,.box 36 (obD (zR h ((zR h v).items.getD 1 vl0))))] ?_;refine ⟨⟨⟨Sub.int hCe.symm,Sub.bool (by simpa using c4w),yH⟩,⟨⟨rfl,SubL.same rfl⟩,yG⟩,rfl,rfl⟩,?_⟩;refine zB (zE zM [] 700 rfl ?_);repeat (first | refine zG ?_ | refine zH ?_ | refine zZ1 ?_)
  refine zC (zA (zB (zQ ?_)));refine yC (ι := {k : Nat // k ≤ (ixI (yA h C).order N).toNat}) [0,2,4,6,7,9,10] [0,1,2,3,104] 750 (fun x => [(11,.sl false 1 ((yA h C).order.drop x.1) iD 0)]) (fun _ => []) (fun x => (ixI (yA h C).order N).toNat - x.1) ⟨0,Nat.zero_le _⟩ ?_;refine ⟨⟨⟨Sub.slSl rfl,yH⟩,yG,rfl,rfl⟩,fun x => ?_⟩;have hkx : x.1 ≤ (ixI (yA h C).order N).toNat := x.2;refine zB ?_;refine zB (zV zM [] [[],[0],[0,1],[],[3],[3,4],[3,4,5],[3,4,5,6],(rgN 8)] 800 yR (by kernel_rfl) rfl ?_);repeat (first | refine zG ?_ | refine zH ?_ | refine zY1 ?_)
  refine zC (zA (zS rfl (fun c7 => ?_) (fun c7 => ?_)))
  ·have c7w : ¬ (yA h C).order.getD x.1 0 = N := by
    have h9 : ¬ (yA h C).order.getD x.1 0 = ((zR h v).items.getD 0 vl0).r := by
     have h8 : ¬ ((yA h C).order.drop x.1).getD (Int.toNat 0) 0 = ((zR h v).items.getD 0 vl0).r := by simpa using c7
     rwa [gK0] at h8
    exact fun e9 => h9 (e9.trans hN)
   have hxl : x.1 < (ixI (yA h C).order N).toNat := by
    rcases Nat.lt_or_ge x.1 (ixI (yA h C).order N).toNat with h9 | h9
    ·exact h9
    ·exact absurd (by rw [show x.1 = (ixI (yA h C).order N).toNat by omega];exact tP0 hsh) c7w
   refine zO (zA (zQ ?_));refine zE zM [] 900 rfl ?_;repeat (first | refine zG ?_ | refine zH ?_ | refine kC0 ?_)
   refine zC (zP ?_);exact zW ⟨x.1 + 1,by omega⟩ ⟨⟨Sub.slSl (by rw [← List.drop_drop];exact congrArg (List.map iD) (zA0 _ 1)),yH⟩,yG,rfl,rfl⟩ (by show (ixI (yA h C).order N).toNat - (x.1 + 1) < (ixI (yA h C).order N).toNat - x.1;omega)
  ·have c7w : (yA h C).order.getD x.1 0 = N := by
    have h9 : (yA h C).order.getD x.1 0 = ((zR h v).items.getD 0 vl0).r := by
     have h8 : ((yA h C).order.drop x.1).getD (Int.toNat 0) 0 = ((zR h v).items.getD 0 vl0).r := by simpa using c7
     rwa [gK0] at h8
    exact h9.trans hN.symm
   have hxe : x.1 = (ixI (yA h C).order N).toNat := xV0 (by omega) x.2 hrg.1 c7w;refine yF (zZ (yB (zX (zA ?_))));refine zB (zV zM [] mK23 1000 yR (by kernel_rfl) rfl ?_);repeat (first | refine zG ?_ | refine zH ?_ | refine kC0 ?_)
   refine yO _ ((qC0 h (aftL (yA h C).order N) s hh (by rw [hN];exact hck)).args ⟨SubP.refl _,SubP.of_eq (by show D.sl false 1 _ iD 0 = .sl false 1 _ iD 0;congr 1;unfold aftL;rw [hxe,show (ixI (yA h C).order N + 1).toNat = (ixI (yA h C).order N).toNat + 1 by omega,← List.drop_drop];exact zA0 _ 1),SubP.refl _,trivial⟩) rfl rfl ?_;repeat (first | refine zG ?_ | refine zH ?_ | refine kC0 ?_)
   refine zC (zA (zB ?_));refine yK [0,2,6,7,9,10,12] [0,1,3,104,811] 1010 [(14,.v (.bool S.isSome))] [(811,.box 29 (vlD A))] ?_;refine ⟨⟨⟨Sub.bool (by rw [hsa]),yH⟩,⟨⟨rfl,by rw [hA,hsa];exact SubL.same rfl⟩,yG⟩,rfl,rfl⟩,?_⟩;refine zL 1100 ?_;refine zS rfl (fun c10 => ?_) (fun c10 => ?_)
   ·have c10w : S.isSome = false := by simpa using c10
    refine zB (zE zM [] 1200 rfl ?_);repeat (first | refine zG ?_ | refine zH ?_ | refine bF0 ?_)
    refine zT _ (gR _ _) rfl ?_;repeat (first | refine zG ?_ | refine zH ?_ | refine bF0 ?_)
    refine zC (zA (zJ (zK ?_)));have hn : R = (raS 36 (suB ++ s ++ qB),h) := by
     rw [hR];unfold upS;rw [← hS];rw [if_pos c10w]
    subst hn;exact mO
   ·have c10w : S.isSome = true := by simpa using c10
    refine zO (zA (zB ?_));refine zB (zV zM [] mK1 1300 yR (by kernel_rfl) rfl ?_);refine zF ?_;refine yO _ (qM h A) rfl rfl ?_;refine zF ?_;refine zC (zA ?_);refine yK [0,2,6,7,9,10,12,15] [0,1,3,104,811,1105] 1310 [] [(1105,.box 36 (obD (zR h A)))] ?_;refine ⟨⟨yH,⟨⟨rfl,SubL.same rfl⟩,yG⟩,rfl,rfl⟩,?_⟩;refine zL 1400 ?_;refine zS rfl (fun c13 => ?_) (fun c13 => ?_)
    ·have c13w : (zR h A).kind = 12 := by simpa using c13
     refine zB ?_;refine zB (zE zM [] 1500 rfl ?_);repeat (first | refine zG ?_ | refine zH ?_ | refine cT0 ?_)
     refine zC (zA (zS rfl (fun c14 => ?_) (fun c14 => ?_)))
     ·have c14w : ((zR h A).items.getD 0 vl0).k = 0 := by simpa using c14
      refine zB (zE zM [] 1600 rfl ?_);refine zF ?_;refine zT _ ((uK0 s ⟨#[114,101,97,100]⟩ (by omega) (by decide)).out (SubP.of_eq (by rw [cJ0]))) rfl ?_;refine zF ?_;refine zC (zA (zJ (zK (zK ?_))));have hn : R = (raS 36 (atB ++ s ++ cnrB),h) := by
       rw [hR];unfold upS;rw [← hS];rw [← hA,← hC];rw [if_neg (by rw [c10w];decide),if_neg (not_not_intro c4w),if_pos c13w,gtS,if_pos c14w]
      subst hn;exact mO
     ·have c14w : ¬ ((zR h A).items.getD 0 vl0).k = 0 := by simpa using c14
      refine zO (zA ?_);refine zB (zV zM [] mK8 1700 yR (by kernel_rfl) rfl ?_);repeat (first | refine zG ?_ | refine zH ?_ | refine cT0 ?_)
      refine zT _ ((tX _ [((zR h v).items.getD 1 vl0)]).args ⟨SubP.refl _,SubP.slrSl (m := false) rfl,trivial⟩) rfl ?_;repeat (first | refine zG ?_ | refine zH ?_ | refine cT0 ?_)
      refine zC (zA (zJ (zK ?_)));have hn : R = (caS ((zR h A).items.getD 0 vl0) [((zR h v).items.getD 1 vl0)],h) := by
       rw [hR];unfold upS;rw [← hS];rw [← hA,← hC];rw [if_neg (by rw [c10w];decide),if_neg (not_not_intro c4w),if_pos c13w,gtS,if_neg c14w]
      subst hn;exact mO
    ·have c13w : ¬ (zR h A).kind = 12 := by simpa using c13
     refine zO (zA ?_);refine zB (zE zM [1100] 1800 rfl ?_);refine zF ?_;refine yJ _ _ (cI0 h A ((zR h v).items.getD 1 vl0) C true hh g har hai hwi hsin) rfl ?_;refine zF ?_;refine zC (zA (zJ ?_));have hn : R = bdS h A ((zR h v).items.getD 1 vl0) C true := by
      rw [hR];unfold upS;rw [← hS];rw [← hA,← hC];rw [if_neg (by rw [c10w];decide),if_neg (not_not_intro c4w),if_neg c13w]
     subst hn;exact mO
 ·have c4w : ¬ (zR h ((zR h v).items.getD 1 vl0)).kind = 10 := by simpa using c4
  rw [if_neg c4w] at hCe;refine zO (zA ?_);refine yK [0,2,4,6,7] [0,1,2,3,104] 510 [(9,.v (.int .i64 C)),(10,.v (.bool false))] [(215,.box 36 (obD (zR h ((zR h v).items.getD 1 vl0))))] ?_;refine ⟨⟨⟨Sub.int hCe.symm,Sub.bool (by simpa using c4w),yH⟩,⟨⟨rfl,SubL.same rfl⟩,yG⟩,rfl,rfl⟩,?_⟩;refine zB (zE zM [] 700 rfl ?_);repeat (first | refine zG ?_ | refine zH ?_ | refine zZ1 ?_)
  refine zC (zA (zB (zQ ?_)));refine yC (ι := {k : Nat // k ≤ (ixI (yA h C).order N).toNat}) [0,2,4,6,7,9,10] [0,1,2,3,104] 750 (fun x => [(11,.sl false 1 ((yA h C).order.drop x.1) iD 0)]) (fun _ => []) (fun x => (ixI (yA h C).order N).toNat - x.1) ⟨0,Nat.zero_le _⟩ ?_;refine ⟨⟨⟨Sub.slSl rfl,yH⟩,yG,rfl,rfl⟩,fun x => ?_⟩;have hkx : x.1 ≤ (ixI (yA h C).order N).toNat := x.2;refine zB ?_;refine zB (zV zM [] [[],[0],[0,1],[],[3],[3,4],[3,4,5],[3,4,5,6],(rgN 8)] 800 yR (by kernel_rfl) rfl ?_);repeat (first | refine zG ?_ | refine zH ?_ | refine zY1 ?_)
  refine zC (zA (zS rfl (fun c7 => ?_) (fun c7 => ?_)))
  ·have c7w : ¬ (yA h C).order.getD x.1 0 = N := by
    have h9 : ¬ (yA h C).order.getD x.1 0 = ((zR h v).items.getD 0 vl0).r := by
     have h8 : ¬ ((yA h C).order.drop x.1).getD (Int.toNat 0) 0 = ((zR h v).items.getD 0 vl0).r := by simpa using c7
     rwa [gK0] at h8
    exact fun e9 => h9 (e9.trans hN)
   have hxl : x.1 < (ixI (yA h C).order N).toNat := by
    rcases Nat.lt_or_ge x.1 (ixI (yA h C).order N).toNat with h9 | h9
    ·exact h9
    ·exact absurd (by rw [show x.1 = (ixI (yA h C).order N).toNat by omega];exact tP0 hsh) c7w
   refine zO (zA (zQ ?_));refine zE zM [] 900 rfl ?_;repeat (first | refine zG ?_ | refine zH ?_ | refine kC0 ?_)
   refine zC (zP ?_);exact zW ⟨x.1 + 1,by omega⟩ ⟨⟨Sub.slSl (by rw [← List.drop_drop];exact congrArg (List.map iD) (zA0 _ 1)),yH⟩,yG,rfl,rfl⟩ (by show (ixI (yA h C).order N).toNat - (x.1 + 1) < (ixI (yA h C).order N).toNat - x.1;omega)
  ·have c7w : (yA h C).order.getD x.1 0 = N := by
    have h9 : (yA h C).order.getD x.1 0 = ((zR h v).items.getD 0 vl0).r := by
     have h8 : ((yA h C).order.drop x.1).getD (Int.toNat 0) 0 = ((zR h v).items.getD 0 vl0).r := by simpa using c7
     rwa [gK0] at h8
    exact h9.trans hN.symm
   have hxe : x.1 = (ixI (yA h C).order N).toNat := xV0 (by omega) x.2 hrg.1 c7w;refine yF (zZ (yB (zX (zA ?_))));refine zB (zV zM [] mK23 1000 yR (by kernel_rfl) rfl ?_);repeat (first | refine zG ?_ | refine zH ?_ | refine kC0 ?_)
   refine yO _ ((qC0 h (aftL (yA h C).order N) s hh (by rw [hN];exact hck)).args ⟨SubP.refl _,SubP.of_eq (by show D.sl false 1 _ iD 0 = .sl false 1 _ iD 0;congr 1;unfold aftL;rw [hxe,show (ixI (yA h C).order N + 1).toNat = (ixI (yA h C).order N).toNat + 1 by omega,← List.drop_drop];exact zA0 _ 1),SubP.refl _,trivial⟩) rfl rfl ?_;repeat (first | refine zG ?_ | refine zH ?_ | refine kC0 ?_)
   refine zC (zA (zB ?_));refine yK [0,2,6,7,9,10,12] [0,1,3,104,811] 1010 [(14,.v (.bool S.isSome))] [(811,.box 29 (vlD A))] ?_;refine ⟨⟨⟨Sub.bool (by rw [hsa]),yH⟩,⟨⟨rfl,by rw [hA,hsa];exact SubL.same rfl⟩,yG⟩,rfl,rfl⟩,?_⟩;refine zL 1100 ?_;refine zS rfl (fun c10 => ?_) (fun c10 => ?_)
   ·have c10w : S.isSome = false := by simpa using c10
    refine zB (zE zM [] 1200 rfl ?_);repeat (first | refine zG ?_ | refine zH ?_ | refine bF0 ?_)
    refine zT _ (gR _ _) rfl ?_;repeat (first | refine zG ?_ | refine zH ?_ | refine bF0 ?_)
    refine zC (zA (zJ (zK ?_)));have hn : R = (raS 36 (suB ++ s ++ qB),h) := by
     rw [hR];unfold upS;rw [← hS];rw [if_pos c10w]
    subst hn;exact mO
   ·have c10w : S.isSome = true := by simpa using c10
    refine zO (zA (zB ?_));refine zB (zV zM [] mK1 1300 yR (by kernel_rfl) rfl ?_);refine zF ?_;refine yO _ (qM h A) rfl rfl ?_;refine zF ?_;refine zC (zA ?_);refine yK [0,2,6,7,9,10,12,15] [0,1,3,104,811,1105] 1310 [] [(1105,.box 36 (obD (zR h A)))] ?_;refine ⟨⟨yH,⟨⟨rfl,SubL.same rfl⟩,yG⟩,rfl,rfl⟩,?_⟩;refine zL 1400 ?_;refine uW rfl ?_;refine zO (zA ?_);refine zB (zE zM [1100] 1800 rfl ?_);refine zF ?_;refine yJ _ _ (cI0 h A ((zR h v).items.getD 1 vl0) C false hh g har hai hwi hsin) rfl ?_;refine zF ?_;refine zC (zA (zJ ?_));have hn : R = bdS h A ((zR h v).items.getD 1 vl0) C false := by
     rw [hR];unfold upS;rw [← hS];rw [← hA,← hC];rw [if_neg (by rw [c10w];decide),if_pos c4w]
    subst hn;exact mO
theorem cS0 {P : Program} {K : DS → Prop} {p : Prop} {r : Out} (hr : r.sat P K) (hp : p := by first | exact ⟨by decide,(qW g c7w.1).1⟩ | exact ⟨rfl,(qW g c7w.1).1⟩ | first | exact trivial | omega | exact ini (by omega) (by omega) | (intro hh;simp at hh;exact ini (by omega) (by omega)) | (intro hh;simp at hh ⊢;omega) | (simp at *;omega) | (simp_all;done)) : (Out.need p r).sat P K := ⟨hp,hr⟩
theorem cR0 {P : Program} {K : DS → Prop} {p : Prop} {r : Out} (hr : r.sat P K) (hp : p := by first | exact ⟨by decide,(qW g c9).1⟩ | exact ⟨rfl,(qW g c9).1⟩ | exact ⟨hii.1,hii.2⟩ | exact ⟨rfl,hii.2⟩ | exact ⟨by simp [MR.len],by simpa [MR.len] using hii.2⟩ | rfl | (simp only [MR.len];done) | first | exact trivial | omega | exact ini (by omega) (by omega) | (intro hh;simp at hh;exact ini (by omega) (by omega)) | (intro hh;simp at hh ⊢;omega) | (simp at *;omega) | (simp_all;done)) : (Out.need p r).sat P K := ⟨hp,hr⟩
theorem bE0 {P : Program} {K : DS → Prop} {p : Prop} {r : Out} (hr : r.sat P K) (hp : p := by first | exact ⟨hci.1,hci.2⟩ | exact ⟨rfl,hci.2⟩ | exact ⟨by simp [MR.len],by simpa [MR.len] using hci.2⟩ | rfl | (simp only [MR.len];done) | (simp only [ByteArray.size_append,kbs,List.size_toArray,List.length_cons,List.length_nil];omega) | first | exact trivial | omega | exact ini (by omega) (by omega) | (intro hh;simp at hh;exact ini (by omega) (by omega)) | (intro hh;simp at hh ⊢;omega) | (simp at *;omega) | (simp_all;done)) : (Out.need p r).sat P K := ⟨hp,hr⟩
set_option maxHeartbeats 2000000 in
theorem builtin_G (h : List Ob) (v : Vl) (s : ByteArray) (hh : HpIn h) (g : Uh h) (hv : hasS h v = true) (hiv : VlIn v) (hs : s.size ≤ 100) (h9 : ¬ (zR h v).kind = 9) (h11 : ¬ (zR h v).kind = 11) : FnG Tryz.prog 36 [.bp 0 0,.agg (vlD v),.v (.string s)] (hpO h) (.agg (stD (biS h v s).1)) (hpO (biS h v s).2) := by
 have hg5 := g.hi;obtain ⟨R,hR⟩ : ∃ R,R = biS h v s := ⟨_,rfl⟩;rw [← hR];have hz := gZ;have hcf := wF0 g hv;have hvo := kI hv;have hci := xW g hcf;have hnz := jA0 g hci;have hnz2 : (h.getD (clA h v).toNat ob0).name.size ≤ 700 := hnz;have hoz := dC g v;have hbi : VlIn (biV ((yA h (clA h v)).name ++ dotB ++ s)) := ⟨(by decide : (-9223372036854775808 : Int) ≤ 7),(by decide : (7 : Int) ≤ 9223372036854775807),(by decide : (-9223372036854775808 : Int) ≤ 0),(by decide : (0 : Int) ≤ 9223372036854775807),(fun _ h => by cases h),(fun _ h => by cases h),(by decide : 0 ≤ 2000000),(by decide : 0 ≤ 2000000),by show ((yA h (clA h v)).name ++ dotB ++ s).size ≤ 2000000;rw [ByteArray.size_append,ByteArray.size_append];omega⟩;refine jE zM Tryz.func36 rfl rfl rfl rfl rfl rfl rfl ?_;intro w0 s0 mx;refine zL 100 ?_;refine zB (zV zM [] mK1 200 yR (by kernel_rfl) rfl ?_);refine zF ?_;refine yO _ (yZ h v hvo) rfl rfl ?_;refine zF ?_;refine zC (zA (zB ?_));refine yK [0,2,4,6,7] [0,1,2,3,105] 210 [] [(105,.box 36 (obD (zR h v)))] ?_;refine ⟨⟨yH,⟨⟨rfl,SubL.same rfl⟩,yG⟩,rfl,rfl⟩,?_⟩;refine zL 300 ?_;refine zS rfl (fun c2 => ?_) (fun c2 => ?_)
 ·have c2w : s = mF := of_decide_eq_true c2;refine zQ (zL 400 ?_);refine zY (fun c3 => ?_) (fun c3 => ?_)
  ·
   refine zB (zE zM [] 500 rfl ?_);refine zF ?_;refine zT _ (uS _) rfl ?_;refine zF ?_;refine zT _ (qI _) rfl ?_;refine zF ?_;refine zC (zA (zJ (zN (zK ?_))));have hnm : jN h v = (v.s,true) := by unfold jN jP;rw [if_pos c3]
   have hn : R = (vlS (txV (v.s)),h) := by
    rw [hR];unfold biS;rw [if_pos ⟨c2w,by rw [hnm]⟩,hnm]
   subst hn;exact mO
  ·
   refine zL 600 ?_;refine zY (fun c5 => ?_) (fun c5 => ?_)
   ·
    refine zB (zE zM [] 700 rfl ?_);refine zF ?_;refine zT _ (uS _) rfl ?_;refine zF ?_;refine zT _ (qI _) rfl ?_;refine zF ?_;refine zC (zA (zJ (zN (zK ?_))));have hnm : jN h v = ((zR h v).name,true) := by unfold jN jP;rw [if_neg c3,if_pos c5]
    have hn : R = (vlS (txV ((zR h v).name)),h) := by
     rw [hR];unfold biS;rw [if_pos ⟨c2w,by rw [hnm]⟩,hnm]
    subst hn;exact mO
   ·
    refine zB (zE zM [] 800 rfl ?_);repeat (first | refine zG ?_ | refine zH ?_ | refine zU (by first | exact ⟨by decide,(qW g (by assumption)).1⟩ | exact ⟨rfl,(qW g (by assumption)).1⟩ | exact fun hh9 => ⟨by decide,(qW g (by simpa using hh9)).1⟩ | exact fun hh9 => ⟨rfl,(qW g (by simpa using hh9)).1⟩ | exact fun hh9 => (qW g (by simpa using hh9)).1 | first | exact trivial | omega | exact ini (by omega) (by omega) | (intro hh;simp at hh;exact ini (by omega) (by omega)) | (intro hh;simp at hh ⊢;omega) | (simp at *;omega) | (simp_all;done)) ?_)
    refine zC (zA (zS rfl (fun c7 => ?_) (fun c7 => ?_)))
    ·have c7w : (zR h v).kind = 8 ∧ ((zR h v).items.getD 0 vl0).k = 7 := by simpa using c7
     refine zB (zE zM [] 900 rfl ?_);repeat (first | refine zG ?_ | refine zH ?_ | refine cS0 ?_)
     refine zT _ (uS _) rfl ?_;repeat (first | refine zG ?_ | refine zH ?_ | refine cS0 ?_)
     refine zT _ (qI _) rfl ?_;repeat (first | refine zG ?_ | refine zH ?_ | refine cS0 ?_)
     refine zC (zA (zJ (zN (zK ?_))));have hn1 : jC0 h ((zR h v).items.getD 0 vl0) = (((zR h v).items.getD 0 vl0).s,true) := by unfold jC0 jP;rw [if_pos c7w.2]
     have hnm : jN h v = (((zR h v).items.getD 0 vl0).s,true) := by unfold jN jP;rw [if_neg c3,if_neg c5,if_pos c7w.1,hn1]
     have hn : R = (vlS (txV (((zR h v).items.getD 0 vl0).s)),h) := by
      rw [hR];unfold biS;rw [if_pos ⟨c2w,by rw [hnm]⟩,hnm]
     subst hn;exact mO
    ·have c7w : ¬ ((zR h v).kind = 8 ∧ ((zR h v).items.getD 0 vl0).k = 7) := by simpa using c7
     refine zL 1000 ?_;refine zS rfl (fun c9 => ?_) (fun c9 => ?_)
     ·replace c9 : (zR h v).kind = 8 := by simpa using c9
      have hi7 : ¬ ((zR h v).items.getD 0 vl0).k = 7 := fun h8 => c7w ⟨c9,h8⟩;have hif : (zR h ((zR h v).items.getD 0 vl0)).kind = 7 := by
       have h8 := (qW g c9).2;simp only [kR,Bool.or_eq_true,decide_eq_true_eq] at h8;exact h8.resolve_left hi7
      obtain ⟨hi6,hio,hie⟩ := jH (h := h) (v := ((zR h v).items.getD 0 vl0)) (by omega);have hii := yQ hio;refine zB (zV zM [] [[],[0],[0,1],[0,1,2],[],[4],[4,5],[4,5,6],[4,5,6,7],(rgN 9),(rgN 10),(rgN 11),(rgN 12),(rgN 13),(rgN 14)] 1100 yR (by kernel_rfl) rfl ?_);repeat (first | refine zG ?_ | refine zH ?_ | refine cR0 ?_)
      refine zT _ ((uS (zR h ((zR h v).items.getD 0 vl0)).name).args ⟨SubP.of_eq (by rw [hie];rfl),trivial⟩) rfl ?_;repeat (first | refine zG ?_ | refine zH ?_ | refine cR0 ?_)
      refine zT _ (qI _) rfl ?_;repeat (first | refine zG ?_ | refine zH ?_ | refine cR0 ?_)
      refine zC (zA (zJ (zN (zK ?_))));have hn1 : jC0 h ((zR h v).items.getD 0 vl0) = ((zR h ((zR h v).items.getD 0 vl0)).name,true) := by unfold jC0 jP;rw [if_neg hi7,if_pos hif]
      have hn2 : (zR h ((zR h v).items.getD 0 vl0)).name = (yA h ((zR h v).items.getD 0 vl0).r).name := by rw [hie]
      have hnm : jN h v = ((zR h ((zR h v).items.getD 0 vl0)).name,true) := by unfold jN jP;rw [if_neg c3,if_neg c5,if_pos c9,hn1]
      have hn : R = (vlS (txV ((zR h ((zR h v).items.getD 0 vl0)).name)),h) := by
       rw [hR];unfold biS;rw [if_pos ⟨c2w,by rw [hnm]⟩,hnm]
      subst hn;exact mO
     ·replace c9 : ¬ (zR h v).kind = 8 := by simpa using c9
      refine zO (zP (zA (zB ?_)));refine zB (zV zM [] mK4 1200 yR (by kernel_rfl) rfl ?_);refine zF ?_;refine yO _ (wC h v hcf) rfl rfl ?_;refine zF ?_;refine zC (zA ?_);refine zB (zE zM [] 1300 rfl ?_);refine zF ?_;refine zT _ (kA _) rfl ?_;refine zF ?_;refine zT _ (vZ (mtL (clA h v)) s) rfl ?_;refine zF ?_;refine zC (zA (zS rfl (fun c12 => ?_) (fun c12 => ?_)))
      ·have c12w : hasB (mtL (clA h v)) s = true := by simpa using c12
       refine zB (zV zM [1092] mK24 1400 yR (by kernel_rfl) rfl ?_);repeat (first | refine zG ?_ | refine zH ?_ | refine bE0 ?_)
       refine yJ _ _ ((wN h (biV ((yA h (clA h v)).name ++ dotB ++ s)) v (by omega) hbi hiv).args ⟨Sub.refl _,Sub.ofP (SubP.agg (by repeat (first | exact trivial | exact SubP.refl _ | exact SubP.nilSl rfl | refine ⟨?_,?_⟩))) rfl rfl,Sub.refl _,trivial⟩) rfl ?_;repeat (first | refine zG ?_ | refine zH ?_ | refine bE0 ?_)
       refine zC (zA (zJ (zK ?_)));have hnn : ¬ (s = mF ∧ (jN h v).2 = true) := fun hh9 => by
        have h8 := hh9.2;rw [xR0 h g v,decide_eq_false c3,decide_eq_false c5,decide_eq_false c9] at h8
        cases h8
       have hn : R = newS h (mtO (biV ((yA h (clA h v)).name ++ dotB ++ s)) v) := by
        rw [hR];unfold biS;rw [if_neg hnn,if_pos c12w]
       subst hn;exact mO
      ·have c12w : hasB (mtL (clA h v)) s = false := by simpa using c12
       refine zO (zA ?_);refine zB (zV zM [] mK2 1500 yR (by kernel_rfl) rfl ?_);refine zF ?_;refine yO _ (pY h v s g hcf (by omega) h9 h11) rfl rfl ?_;refine zF ?_;refine zC (zA (zJ ?_));have hnn : ¬ (s = mF ∧ (jN h v).2 = true) := fun hh9 => by
        have h8 := hh9.2;rw [xR0 h g v,decide_eq_false c3,decide_eq_false c5,decide_eq_false c9] at h8
        cases h8
       have hn : R = (lkS h v s,h) := by
        rw [hR];unfold biS;rw [if_neg hnn,if_neg (by rw [c12w];decide)]
       subst hn;exact mO
 ·have c2w : ¬ s = mF := of_decide_eq_false c2;refine zO (zA (zB ?_));refine zB (zV zM [] mK4 1200 yR (by kernel_rfl) rfl ?_);refine zF ?_;refine yO _ (wC h v hcf) rfl rfl ?_;refine zF ?_;refine zC (zA ?_);refine zB (zE zM [] 1300 rfl ?_);refine zF ?_;refine zT _ (kA _) rfl ?_;refine zF ?_;refine zT _ (vZ (mtL (clA h v)) s) rfl ?_;refine zF ?_;refine zC (zA (zS rfl (fun c12 => ?_) (fun c12 => ?_)))
  ·have c12w : hasB (mtL (clA h v)) s = true := by simpa using c12
   refine zB (zV zM [1092] mK24 1400 yR (by kernel_rfl) rfl ?_);repeat (first | refine zG ?_ | refine zH ?_ | refine bE0 ?_)
   refine yJ _ _ ((wN h (biV ((yA h (clA h v)).name ++ dotB ++ s)) v (by omega) hbi hiv).args ⟨Sub.refl _,Sub.ofP (SubP.agg (by repeat (first | exact trivial | exact SubP.refl _ | exact SubP.nilSl rfl | refine ⟨?_,?_⟩))) rfl rfl,Sub.refl _,trivial⟩) rfl ?_;repeat (first | refine zG ?_ | refine zH ?_ | refine bE0 ?_)
   refine zC (zA (zJ (zK ?_)));have hnn : ¬ (s = mF ∧ (jN h v).2 = true) := fun hh9 => c2w hh9.1;have hn : R = newS h (mtO (biV ((yA h (clA h v)).name ++ dotB ++ s)) v) := by
    rw [hR];unfold biS;rw [if_neg hnn,if_pos c12w]
   subst hn;exact mO
  ·have c12w : hasB (mtL (clA h v)) s = false := by simpa using c12
   refine zO (zA ?_);refine zB (zV zM [] mK2 1500 yR (by kernel_rfl) rfl ?_);refine zF ?_;refine yO _ (pY h v s g hcf (by omega) h9 h11) rfl rfl ?_;refine zF ?_;refine zC (zA (zJ ?_));have hnn : ¬ (s = mF ∧ (jN h v).2 = true) := fun hh9 => c2w hh9.1;have hn : R = (lkS h v s,h) := by
    rw [hR];unfold biS;rw [if_neg hnn,if_neg (by rw [c12w];decide)]
   subst hn;exact mO
end Go.Proofs.YtbhndnphimmjjaaGreatDoor
