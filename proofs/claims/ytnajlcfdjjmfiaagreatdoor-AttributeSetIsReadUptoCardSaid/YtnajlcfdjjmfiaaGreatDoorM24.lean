/- Part 24 of the proof. -/
import Derived.Test.YtnajlcfdjjmfiaaGreatDoorM23
import Derived.Test.YtnajlcfdjjmfiaaGreatDoorM22
namespace Go.Proofs.YtnajlcfdjjmfiaaGreatDoor
namespace Gq
open Go.RowKit
variable {md me : Bool}
theorem changed_G (h : List Ob) (v : Vl) (hh : h.length ≤ 4000000) (hin : inH h v.r) (hst : 0 ≤ (zW h v.r).state ∧ (zW h v.r).state ≤ 1099511627776000) : FnG Tryz.prog 41 [.bp 0 0,.agg (vlD v)] (hpO h) (.v (.tuple #[])) (hpO (h.set v.r.toNat (vC (zW h v.r)))) := by
 refine jJ zP Tryz.func41 rfl rfl rfl rfl rfl rfl rfl ?_;intro w0 s0 mx;refine zN 100 ?_;refine zB (zT zP [] mK23 200 yP (by kernel_rfl) rfl ?_);repeat (first | refine zG ?_ | refine zH ?_ | refine zV (by first | exact ⟨hin.1,hin.2⟩ | exact ⟨rfl,hin.2⟩ | exact ⟨by simp [MR.len],by simpa [MR.len] using hin.2⟩ | rfl | (simp only [MR.len];done) | first | exact trivial | omega | exact ini (by omega) (by omega) | (intro hh;simp at hh;exact ini (by omega) (by omega)) | (intro hh;simp at hh ⊢;omega) | (simp at *;omega) | (simp_all;done)) ?_)
 refine zC (zA (zZ (fun c1 => ?_) (fun c1 => ?_)))
 ·
  refine zT zP [] mK24 300 yP (by kernel_rfl) rfl ?_;repeat (first | refine zG ?_ | refine zH ?_ | refine zV (by first | exact ⟨hin.1,hin.2⟩ | exact ⟨rfl,hin.2⟩ | exact ⟨by simp [MR.len],by simpa [MR.len] using hin.2⟩ | rfl | (simp only [MR.len];done) | (show InI _;exact ⟨by have := hst.1;show _ ≤ (zW h v.r).state + 1;omega,by have := hst.2;show (zW h v.r).state + 1 ≤ _;omega⟩) | first | exact trivial | omega | exact ini (by omega) (by omega) | (intro hh;simp at hh;exact ini (by omega) (by omega)) | (intro hh;simp at hh ⊢;omega) | (simp at *;omega) | (simp_all;done)) ?_)
  refine zC ?_;exact FinH.normal 2 rfl rfl (Sub.refl _) ⟨⟨rfl,Sub.mo (by simp),rfl,trivial⟩,SubO.mp (by rw [show vC (zW h v.r) = { zW h v.r with state := (zW h v.r).state + 1 } from if_pos (by simpa using c1)];exact dG rfl),trivial⟩
 ·
  refine zO ?_;exact FinH.normal 2 rfl rfl (Sub.refl _) ⟨⟨rfl,Sub.mo (by simp),rfl,trivial⟩,SubO.mp (by rw [show vC (zW h v.r) = zW h v.r from if_neg (by simpa using c1),pJ0 hin]),trivial⟩
theorem fixed_ok (h : List Ob) (v : Vl) (s : ByteArray) (g : Uh h) (hv : v.k = 6 → yD h v.r = true) : Fn Tryz.prog 37 [hpD md h,.agg (vlD v),.v (.string s)] (.v (.bool (fixS h v s))) := by
 refine yQ zP Tryz.func37 rfl rfl rfl rfl rfl rfl ?_;intro w0 s0 mx;refine zN 100 ?_;refine zB ?_;refine zB (zE zP [] 200 rfl ?_);refine zF ?_;refine zQ _ (yJ h v hv) rfl ?_;refine zF ?_;refine zC (zA (zN 300 ?_));refine zU (zN 400 ?_);refine zZ (fun c3 => ?_) (fun c3 => ?_)
 ·
  refine zN 500 ?_;refine zL (zM (zK ?_));exact FinV.ret rfl (SubP.bool (by rw [fixS,if_pos (by simpa using c3)];rfl))
 ·
  refine zN 600 ?_;refine zS rfl (fun c5 => ?_) (fun c5 => ?_)
  ·have hk10 : (zJ h v).kind = 10 := by simpa using c5
   have hcin := inst_cls g hk10;refine zN 700 ?_;refine zU (zB (zN 800 ?_));refine zZ (fun c7 => ?_) (fun c7 => ?_)
   ·
    refine zO (zA (zZ (fun c7x => ?_) (fun c7x => ?_)))
    ·
     refine zB (zE zP [] 1200 rfl ?_);refine zF ?_;refine zQ _ (jT h (zJ h v).cls 28 hcin) rfl ?_;refine zF ?_;refine zC (zA (zL (zM (zM (zK ?_)))));exact FinV.ret rfl (SubP.bool (by simp_all [fixS,argN,vX,ctxN,vS,gW]))
    ·
     simp_all
   ·
    refine zN 900 ?_;refine zZ (fun c8 => ?_) (fun c8 => ?_)
    ·
     refine zO (zA (zZ (fun c8x => ?_) (fun c8x => ?_)))
     ·
      refine zB (zE zP [] 1200 rfl ?_);refine zF ?_;refine zQ _ (jT h (zJ h v).cls 28 hcin) rfl ?_;refine zF ?_;refine zC (zA (zL (zM (zM (zK ?_)))));exact FinV.ret rfl (SubP.bool (by simp_all [fixS,argN,vX,ctxN,vS,gW]))
     ·
      simp_all
    ·
     refine zN 1000 ?_;refine zZ (fun c9 => ?_) (fun c9 => ?_)
     ·
      refine zO (zA (zZ (fun c9x => ?_) (fun c9x => ?_)))
      ·
       refine zB (zE zP [] 1200 rfl ?_);refine zF ?_;refine zQ _ (jT h (zJ h v).cls 28 hcin) rfl ?_;refine zF ?_;refine zC (zA (zL (zM (zM (zK ?_)))));exact FinV.ret rfl (SubP.bool (by simp_all [fixS,argN,vX,ctxN,vS,gW]))
      ·
       simp_all
     ·
      refine qC zP [] 1100 ?_;refine zA (zZ (fun c10 => ?_) (fun c10 => ?_))
      ·
       refine zB (zE zP [] 1200 rfl ?_);refine zF ?_;refine zQ _ (jT h (zJ h v).cls 28 hcin) rfl ?_;refine zF ?_;refine zC (zA (zL (zM (zM (zK ?_)))));exact FinV.ret rfl (SubP.bool (by simp_all [fixS,argN,vX,ctxN,vS,gW]))
      ·
       refine zN 1300 ?_;refine zZ (fun c12 => ?_) (fun c12 => ?_)
       ·
        refine zB (zE zP [] 1400 rfl ?_);refine zF ?_;refine zQ _ (jT h (zJ h v).cls 48 hcin) rfl ?_;refine zF ?_;refine zC (zA (zL (zM (zM (zK ?_)))));exact FinV.ret rfl (SubP.bool (by simp_all [fixS,argN,vX,ctxN,vS,gW]))
       ·
        refine zO (zR (zR (zA (zN 1500 ?_))));refine zL ?_;exact FinV.ret rfl (SubP.bool (by simp_all [fixS,argN,vX,ctxN,vS,gW]))
  ·
   refine zO (zR (zA (zN 1500 ?_)));refine zL ?_;exact FinV.ret rfl (SubP.bool (by simp_all [fixS,argN,vX,ctxN,vS,gW]))
theorem dL {P : Program} {K : DS → Prop} {p : Prop} {r : Out} (hr : r.sat P K) (hp : p := by first | (simp only [ByteArray.size_append,kbs,List.size_toArray,List.length_cons,List.length_nil];omega) | (simp only [ByteArray.size_append,kbs,List.size_toArray,List.length_cons,List.length_nil];have := hz;omega) | first | exact trivial | omega | exact ini (by omega) (by omega) | (intro hh;simp at hh;exact ini (by omega) (by omega)) | (intro hh;simp at hh ⊢;omega) | (simp at *;omega) | (simp_all;done)) : (Out.need p r).sat P K := ⟨hp,hr⟩
theorem dS0 {P : Program} {K : DS → Prop} {p : Prop} {r : Out} (hr : r.sat P K) (hp : p := by first | exact ⟨by decide,by rw [hp3];decide⟩ | exact ⟨rfl,by rw [hp3];decide⟩ | first | exact trivial | omega | exact ini (by omega) (by omega) | (intro hh;simp at hh;exact ini (by omega) (by omega)) | (intro hh;simp at hh ⊢;omega) | (simp at *;omega) | (simp_all;done)) : (Out.need p r).sat P K := ⟨hp,hr⟩
theorem dR0 {P : Program} {K : DS → Prop} {p : Prop} {r : Out} (hr : r.sat P K) (hp : p := by first | exact ⟨hwr.1,hwr.2⟩ | exact ⟨rfl,hwr.2⟩ | exact ⟨by simp [MR.len],by simpa [MR.len] using hwr.2⟩ | rfl | (simp only [MR.len];done) | first | exact trivial | omega | exact ini (by omega) (by omega) | (intro hh;simp at hh;exact ini (by omega) (by omega)) | (intro hh;simp at hh ⊢;omega) | (simp at *;omega) | (simp_all;done)) : (Out.need p r).sat P K := ⟨hp,hr⟩
theorem dQ0 {P : Program} {K : DS → Prop} {p : Prop} {r : Out} (hr : r.sat P K) (hp : p := by first | exact ⟨hwr.1,by rw [List.length_set];exact hwr.2⟩ | exact ⟨rfl,by rw [List.length_set];exact hwr.2⟩ | exact ⟨by simp [MR.len],by simpa [MR.len] using hwr.2⟩ | rfl | (simp only [MR.len];done) | first | exact trivial | omega | exact ini (by omega) (by omega) | (intro hh;simp at hh;exact ini (by omega) (by omega)) | (intro hh;simp at hh ⊢;omega) | (simp at *;omega) | (simp_all;done)) : (Out.need p r).sat P K := ⟨hp,hr⟩
theorem qS0 {T : List (Nat × TI)} {rs : List ResultVar} {n0 : Nat} {out d : D} {own' : List DOwn} {S : DS} (hk : Nat.ble n0 2 = true := by rfl) (h : finH T S rs = some d := by rfl) (hs : Sub d (out.ren (qF (iota n0) 2)) := by exact Sub.ofP (SubP.agg (SubPs.refl _)) rfl rfl) (ho : kQ (iota n0) 2 S.ow 0 own' := by exact ⟨⟨rfl,Sub.mo rfl,rfl,trivial⟩,SubO.mp rfl,trivial⟩) : FinH T rs n0 out own' .ret S := FinH.ret 2 hk h hs ho
set_option maxHeartbeats 2000000 in
theorem Delete_G (h : List Ob) (v : Vl) (s : ByteArray) (hh : HpIn h) (g : Uh h) (hv : hasS h v = true) (hs : s.size ≤ 100) : FnG Tryz.prog 14 [.bp 0 0,.agg (vlD v),.v (.string s)] (hpO h) (.agg (stD (delS h v s).1)) (hpO (delS h v s).2) := by
 have hg5 := g.hi;obtain ⟨R,hR⟩ : ∃ R,R = delS h v s := ⟨_,rfl⟩;rw [← hR];have hvr := uC hv;have hcf := cf_of g hv;have hci := clA_in g hcf;have hnz := nm_sz g hci;have hhl := hh.len;have hz : qB.size = 1 ∧ nwaB.size = 28 ∧ cnwB.size = 19 ∧ cndB.size = 19 ∧ atB.size = 11 ∧ cqB.size = 7 ∧ mqB.size = 8 ∧ nhB.size = 20 := by decide
 have hoz := obj_sz g v;refine jJ zP Tryz.func14 rfl rfl rfl rfl rfl rfl rfl ?_;intro w0 s0 mx;refine zN 100 ?_;refine zB ?_;refine zB (zT zP [] [[],[0],[0,1],[],[0,1,2,3]] 200 yP (by kernel_rfl) rfl ?_);refine zF ?_;refine yI _ (jE0 h v hvr) rfl rfl ?_;refine zF ?_;refine zC (zA (zS rfl (fun c1 => ?_) (fun c1 => ?_)))
 ·have c1w : wokS h v = false := by simpa using c1
  refine zB (zT zP [] mK25 300 yP (by kernel_rfl) rfl ?_);repeat (first | refine zG ?_ | refine zH ?_ | refine dL ?_)
  refine yI _ (heapName_ok h v g hcf) rfl rfl ?_;repeat (first | refine zG ?_ | refine zH ?_ | refine dL ?_)
  refine zQ _ (yX _) rfl ?_;repeat (first | refine zG ?_ | refine zH ?_ | refine dL ?_)
  refine zC (zA (zL (zK ?_)));have hn : R = (raS 36 (qB ++ (zW h (clA h v)).name ++ nwaB),h) := by
   rw [hR];unfold delS chS;rw [if_pos c1w]
  subst hn;exact qS0
 ·have c1w : wokS h v = true := by simpa using c1
  have wr := wr_of g c1w;have hwr := wr.inr;have hwe := wr.eo;have hwn := wr.nl;have hwi := wr.il;have hwq := wr.ni;have hwt := wr.st;refine zO (zA ?_);refine zB (zT zP [] mK1 400 yP (by kernel_rfl) rfl ?_);refine zF ?_;refine yI _ (yJ h v hvr) rfl rfl ?_;refine zF ?_;refine zC (zA ?_);refine yN [0,2,4,6,7] [0,1,2,3,205] 410 [] [(205,.box 36 (obD (zJ h v)))] ?_;refine ⟨⟨yR,⟨⟨rfl,SubL.same rfl⟩,yM⟩,rfl,rfl⟩,?_⟩;refine dC (ι := {_u : Unit // R = chF h v s cndB (delF h v s)}) [0,2,4,6,7] [0,1,2,3,205] 1600 (fun _ => []) (fun _ => []) ?_;refine ⟨?_,fun j => ?_⟩
  ·refine zN 500 ?_;refine zS rfl (fun c4 => ?_) (fun c4 => ?_)
   ·have c4w : (zJ h v).kind = 10 := by simpa using c4
    have hcin := inst_cls g c4w;have hfr : (chV h v s).k = 6 → yD h (chV h v s).r = true := fun hk9 => fd_rv hh g hcin s hk9;have hfind := jW (md := true) h (zJ h v).cls s hh hcin (cok_of hh g hcin);refine zB (zT zP [] mK26 600 yP (by kernel_rfl) rfl ?_);refine zF ?_;refine yI _ (hfind) rfl rfl ?_;refine zF ?_;refine zC (zA (zB ?_));refine zB (zT zP [] mK1 700 yP (by kernel_rfl) rfl ?_);refine zF ?_;refine yI _ (yJ h (chV h v s) hfr) rfl rfl ?_;refine zF ?_;refine zC (zA ?_);refine yN [0,2,4,6,7,8,10,11] [0,1,2,3,205,511,605] 710 [] [(605,.box 36 (obD (zJ h (chV h v s))))] ?_;refine ⟨⟨yR,⟨⟨rfl,SubL.same rfl⟩,yM⟩,rfl,rfl⟩,?_⟩;refine zN 800 ?_;refine zS rfl (fun c7 => ?_) (fun c7 => ?_)
    ·have c7w : (chO h v s).isSome = true ∧ (zJ h (chV h v s)).kind = 12 := by
      have h7 : ((chO h v s).isSome && decide ((zJ h (chV h v s)).kind = 12)) = true := c7
      rwa [Bool.and_eq_true,decide_eq_true_eq] at h7
     have hp3 := prop_item g c7w.2;refine zB ?_;refine zB (zE zP [] 900 rfl ?_);repeat (first | refine zG ?_ | refine zH ?_ | refine dS0 ?_)
     refine zC (zA (zS rfl (fun c8 => ?_) (fun c8 => ?_)))
     ·have c8w : ((zJ h (chV h v s)).items.getD 2 vl0).k = 0 := by simpa using c8
      refine zB (zE zP [] 1000 rfl ?_);repeat (first | refine zG ?_ | refine zH ?_ | refine dL ?_)
      refine zQ _ (yX _) rfl ?_;repeat (first | refine zG ?_ | refine zH ?_ | refine dL ?_)
      refine zC (zA (zL (zK (zK ?_))));refine xA ?_;have hn : R = (raS 36 (atB ++ s ++ cndB),h) := by
       rw [hR];unfold delS chS;rw [if_neg (by rw [c1w];decide),if_pos ⟨c4w,c7w.1,c7w.2,c8w⟩]
      subst hn;exact qS0
     ·have c8w : ¬ ((zJ h (chV h v s)).items.getD 2 vl0).k = 0 := by simpa using c8
      refine zO (zA ?_);refine zB (zT zP [] [[],[0],[0,1],[0,1,2],[],[4],(rgN 6),(rgN 7)] 1100 yP (by kernel_rfl) rfl ?_);repeat (first | refine zG ?_ | refine zH ?_ | refine dS0 ?_)
      refine zQ _ ((xY _ [v]).args ⟨SubP.refl _,SubP.slrSl (m := false) rfl,trivial⟩) rfl ?_;repeat (first | refine zG ?_ | refine zH ?_ | refine dS0 ?_)
      refine zC (zA (zL (zK ?_)));refine xA ?_;have hn : R = (caS ((zJ h (chV h v s)).items.getD 2 vl0) [v],h) := by
       rw [hR];unfold delS chS;rw [if_neg (by rw [c1w];decide),if_neg (fun hh9 => c8w hh9.2.2.2),if_pos ⟨c4w,c7w⟩]
      subst hn;exact qS0
    ·have c7w : ¬ ((chO h v s).isSome = true ∧ (zJ h (chV h v s)).kind = 12) := by
      rintro ⟨h8,h9⟩;have h7 : ((chO h v s).isSome && decide ((zJ h (chV h v s)).kind = 12)) = false := c7;rw [h8,decide_eq_true h9] at h7
      cases h7
     refine zO (zA ?_);refine zB (zT zP [] [[],[0],[0,1],[],[],[4],(rgN 6),(rgN 7),(rgN 8),(rgN 8),[],[0,1,2,3,4,5,6,7,8,10],(rgN 12)] 1200 yP (by kernel_rfl) rfl ?_);refine zF ?_;refine yI _ ((atSpecial_ok h (chV h v s) onEr [v] hh g hfr (by show 1 ≤ 1000000;decide)).args ⟨SubP.refl _,SubP.refl _,SubP.refl _,SubP.slrSl (m := false) rfl,trivial⟩) rfl rfl ?_;refine zF ?_;refine zC (zA (zN 1300 ?_));refine zS rfl (fun c12 => ?_) (fun c12 => ?_)
     ·have c12w : (chO h v s).isSome = true ∧ (spS h (chV h v s) onEr).2.2 = true := by
       have h7 : ((chO h v s).isSome && (spS h (chV h v s) onEr).2.2) = true := c12
       rwa [Bool.and_eq_true] at h7
      refine zN 1400 ?_;refine zL ?_;refine xA ?_;have hn : R = (caS (spS h (chV h v s) onEr).1 ((spS h (chV h v s) onEr).2.1 ++ [v]),h) := by
       rw [hR];unfold delS chS;rw [if_neg (by rw [c1w];decide),if_neg (fun hh9 => c7w ⟨hh9.2.1,hh9.2.2.1⟩),if_neg (fun hh9 => c7w ⟨hh9.2.1,hh9.2.2⟩),if_pos ⟨c4w,c12w⟩]
      subst hn;exact qS0
     ·have c12w : ¬ ((chO h v s).isSome = true ∧ (spS h (chV h v s) onEr).2.2 = true) := by
       rintro ⟨h8,h9⟩;have h7 : ((chO h v s).isSome && (spS h (chV h v s) onEr).2.2) = false := c12;rw [h8,h9] at h7
       cases h7
      refine zO ?_;have hj : R = chF h v s cndB (delF h v s) := by
       rw [hR];unfold delS chS;rw [if_neg (by rw [c1w];decide),if_neg (fun hh9 => c7w ⟨hh9.2.1,hh9.2.2.1⟩),if_neg (fun hh9 => c7w ⟨hh9.2.1,hh9.2.2⟩),if_neg (fun hh9 => c12w ⟨hh9.2.1,hh9.2.2⟩)]
      exact jZ ⟨(),hj⟩ ⟨yR,yM,rfl,rfl⟩
   ·have c4w : ¬ (zJ h v).kind = 10 := by simpa using c4
    refine zO ?_;have hj : R = chF h v s cndB (delF h v s) := by
     rw [hR];unfold delS chS;rw [if_neg (by rw [c1w];decide),if_neg (fun hh9 => c4w hh9.1),if_neg (fun hh9 => c4w hh9.1),if_neg (fun hh9 => c4w hh9.1)]
    exact jZ ⟨(),hj⟩ ⟨yR,yM,rfl,rfl⟩
  have hj := j.2;refine zB ?_;refine zB (zT zP [] [[],[0],[0,1],[],[],(rgN 5)] 1700 yP (by kernel_rfl) rfl ?_);refine zF ?_;refine yI _ (fixed_ok h v s g hvr) rfl rfl ?_;refine zF ?_;refine zC (zA (zS rfl (fun c14 => ?_) (fun c14 => ?_)))
  ·have c14w : fixS h v s = true := by simpa using c14
   refine zB (zE zP [] 1800 rfl ?_);repeat (first | refine zG ?_ | refine zH ?_ | refine dL ?_)
   refine zQ _ (yX _) rfl ?_;repeat (first | refine zG ?_ | refine zH ?_ | refine dL ?_)
   refine zC (zA (zL (zK ?_)));have hn : R = (raS 36 (atB ++ s ++ cndB),h) := by
    rw [hj,chF,if_pos c14w]
   subst hn;exact qS0
  ·have c14w : fixS h v s = false := by simpa using c14
   refine zO (zA ?_);refine zB (zE zP [] 1800 rfl ?_);refine zF ?_;refine zQ _ (gA (zJ h v).names s) rfl ?_;refine zF ?_;refine zC (zA (zB (zN 1900 ?_)));refine zS rfl (fun c17 => ?_) (fun c17 => ?_)
   ·have c17w : (ixI (zJ h v).names s) < 0 := by simpa using c17
    refine zB (zN 2000 ?_);refine zU (zN 2100 ?_);refine zS rfl (fun c19 => ?_) (fun c19 => ?_)
    ·have c19w : (zJ h v).kind = 9 := by simpa using c19
     refine zB (zE zP [] 2200 rfl ?_);repeat (first | refine zG ?_ | refine zH ?_ | refine dL ?_)
     refine zQ _ (yX _) rfl ?_;repeat (first | refine zG ?_ | refine zH ?_ | refine dL ?_)
     refine zC (zA (zL (zM (zK (zK ?_)))));have hj9 : R = delF h v s := by rw [hj,chF,if_neg (by rw [c14w];decide)]
     have hn : R = (raS 36 (cqB ++ (zJ h v).name ++ nhB ++ s ++ qB),h) := by rw [hj9,delF,if_pos c17w,lkS,whoS,if_pos c19w]
     subst hn;exact qS0
    ·have c19w : ¬ (zJ h v).kind = 9 := by simpa using c19
     refine zN 2200 ?_;refine zS rfl (fun c21 => ?_) (fun c21 => ?_)
     ·have c21w : (zJ h v).kind = 11 := by simpa using c21
      refine zB (zE zP [] 2300 rfl ?_);repeat (first | refine zG ?_ | refine zH ?_ | refine dL ?_)
      refine zQ _ (yX _) rfl ?_;repeat (first | refine zG ?_ | refine zH ?_ | refine dL ?_)
      refine zC (zA (zL (zM (zK (zK ?_)))));have hj9 : R = delF h v s := by rw [hj,chF,if_neg (by rw [c14w];decide)]
      have hn : R = (raS 36 (mqB ++ (zJ h v).name ++ nhB ++ s ++ qB),h) := by rw [hj9,delF,if_pos c17w,lkS,whoS,if_neg c19w,if_pos c21w]
      subst hn;exact qS0
     ·have c21w : ¬ (zJ h v).kind = 11 := by simpa using c21
      refine zO (zR (zA ?_));refine zB (zT zP [] mK2 2400 yP (by kernel_rfl) rfl ?_);refine zF ?_;refine yI _ (atLacks_ok h v s g hcf (by omega) c19w c21w) rfl rfl ?_;refine zF ?_;refine zC (zA (zL (zK ?_)));have hj9 : R = delF h v s := by rw [hj,chF,if_neg (by rw [c14w];decide)]
      have hn : R = (lkS h v s,h) := by rw [hj9,delF,if_pos c17w]
      subst hn;exact qS0
   ·have c17w : ¬ (ixI (zJ h v).names s) < 0 := by simpa using c17
    have hkl := pP (zJ h v).names s;have hk0 : 0 ≤ (ixI (zJ h v).names s) := by omega
    have hkn : (ixI (zJ h v).names s).toNat < (zJ h v).names.length := by omega
    have hki : (ixI (zJ h v).names s).toNat < (zJ h v).items.length := by omega
    refine zO (zA ?_);refine zB (zT zP [1142,1146] mK27 2500 yP (by kernel_rfl) rfl ?_);repeat (first | refine zG ?_ | refine zH ?_ | refine dR0 ?_)
    refine yS _ _ (jK0 (zJ h v).names (by omega)) rfl ?_;repeat (first | refine zG ?_ | refine zH ?_ | refine dR0 ?_)
    refine yS _ _ (DeleteS_G (zJ h v).names (ixI (zJ h v).names s) hk0 hkn) rfl ?_;repeat (first | refine zG ?_ | refine zH ?_ | refine dR0 ?_)
    refine zC (zA ?_);refine yN [0,4,6,7,14] [2,3,205] 2510 [] [(0,.box 24 [.mo 1 (h.set v.r.toNat { zJ h v with names := (zJ h v).names.eraseIdx (ixI (zJ h v).names s).toNat }).length]),(1,.mrow 36 10 (.map (h.set v.r.toNat { zJ h v with names := (zJ h v).names.eraseIdx (ixI (zJ h v).names s).toNat }) obD ob0))] ?_;refine ⟨⟨yR,⟨⟨rfl,Sub.mo (by simp),rfl,trivial⟩,SubO.mp (dG (by rw [show h.getD v.r.toNat ob0 = zJ h v from hwe.symm];rfl)),yM⟩,rfl,rfl⟩,?_⟩;refine zB (zT zP [1157,1161] mK27 2600 yP (by kernel_rfl) rfl ?_);repeat (first | refine zG ?_ | refine zH ?_ | refine dQ0 ?_)
    refine yS _ _ (yD0 (zJ h v).items (by omega)) rfl ?_;repeat (first | refine zG ?_ | refine zH ?_ | refine dQ0 ?_)
    refine yS _ _ (DeleteV_G (zJ h v).items (ixI (zJ h v).names s) hk0 hki) rfl ?_;repeat (first | refine zG ?_ | refine zH ?_ | refine dQ0 ?_)
    refine zC (zA ?_);refine yN [0,4,6] [2,3] 2610 [] [(0,.box 24 [.mo 1 (h.set v.r.toNat (cutO (zJ h v) s)).length]),(1,.mrow 36 10 (.map (h.set v.r.toNat (cutO (zJ h v) s)) obD ob0))] ?_;refine ⟨⟨yR,⟨⟨rfl,Sub.mo (by simp),rfl,trivial⟩,SubO.mp (cut_row (by rw [show (h.set v.r.toNat { zJ h v with names := (zJ h v).names.eraseIdx (ixI (zJ h v).names s).toNat }).getD v.r.toNat ob0 = _ from kS hwr];rfl)),yM⟩,rfl,rfl⟩,?_⟩;refine zB (zE zP [1166] 2700 rfl ?_);refine zF ?_;refine yS _ _ (changed_G (h.set v.r.toNat (cutO (zJ h v) s)) v (by rw [List.length_set];omega) (kB0 hwr) (by rw [kS hwr];exact hwt)) rfl ?_;refine zF ?_;refine zC (zA (zN 2800 ?_));refine zL ?_;have hj9 : R = delF h v s := by rw [hj,chF,if_neg (by rw [c14w];decide)]
    have hn : R = (vlS vl0,h.set v.r.toNat (vC (cutO (zJ h v) s))) := by rw [hj9,delF,if_neg c17w]
    subst hn;exact FinH.ret 2 rfl rfl (Sub.ofP (SubP.agg (by repeat (first | exact trivial | exact SubP.refl _ | exact SubP.nilSl rfl | refine ⟨?_,?_⟩))) rfl rfl) ⟨⟨rfl,Sub.mo (by simp),rfl,trivial⟩,SubO.mp (by rw [kS hwr,List.set_set]),trivial⟩
end Gq
end Go.Proofs.YtnajlcfdjjmfiaaGreatDoor
