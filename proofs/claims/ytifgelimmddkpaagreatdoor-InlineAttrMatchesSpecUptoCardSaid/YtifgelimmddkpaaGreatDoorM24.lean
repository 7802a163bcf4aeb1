/- Part 24 of the proof. -/
import Derived.Test.YtifgelimmddkpaaGreatDoorM23
namespace Go.Proofs.YtifgelimmddkpaaGreatDoor
namespace Gq
open Go.RowKit
variable {md me : Bool}
theorem changed_G (h : List Ob) (v : Vl) (hh : h.length ≤ 4000000) (hin : inH h v.r) (hst : 0 ≤ (zX h v.r).state ∧ (zX h v.r).state ≤ 1099511627776000) : FnG Tryz.prog 52 [.bp 0 0,.agg (vlD v)] (hpO h) (.v (.tuple #[])) (hpO (h.set v.r.toNat (uU (zX h v.r)))) := by
 refine qS zJ Tryz.func52 rfl rfl rfl rfl rfl rfl rfl ?_;intro w0 s0 mx;refine zL 100 ?_;refine zB (zU zJ [] mK7 200 yP (by kernel_rfl) rfl ?_);repeat (first | refine zG ?_ | refine zH ?_ | refine zW (by first | exact ⟨hin.1,hin.2⟩ | exact ⟨rfl,hin.2⟩ | exact ⟨by simp [MR.len],by simpa [MR.len] using hin.2⟩ | rfl | (simp only [MR.len];done) | exact Dz) ?_)
 refine zC (zA (zZ (fun c1 => ?_) (fun c1 => ?_)))
 ·
  refine zU zJ [] [[],[0],[0,1],[0,1,2],[],[4],(rgN 6),(rgN 7),(rgN 8),(rgN 9),(rgN 10),(rgN 11),(rgN 12)] 300 yP (by kernel_rfl) rfl ?_;repeat (first | refine zG ?_ | refine zH ?_ | refine zW (by first | exact ⟨hin.1,hin.2⟩ | exact ⟨rfl,hin.2⟩ | exact ⟨by simp [MR.len],by simpa [MR.len] using hin.2⟩ | rfl | (simp only [MR.len];done) | (show InI _;exact ⟨by have := hst.1;show _ ≤ (zX h v.r).state + 1;omega,by have := hst.2;show (zX h v.r).state + 1 ≤ _;omega⟩) | exact Dz) ?_)
  refine zC ?_;exact FinH.normal 2 rfl rfl (Sub.refl _) ⟨⟨rfl,Sub.mo (by simp),rfl,trivial⟩,SubO.mp (by rw [show uU (zX h v.r) = { zX h v.r with state := (zX h v.r).state + 1 } from Ab (by simpa using c1)];exact zF0 rfl),trivial⟩
 ·
  refine zN ?_;exact FinH.normal 2 rfl rfl (Sub.refl _) ⟨⟨rfl,Sub.mo (by simp),rfl,trivial⟩,SubO.mp (by rw [show uU (zX h v.r) = zX h v.r from Aa (by simpa using c1),set_ob hin]),trivial⟩
theorem fixed_ok (h : List Ob) (v : Vl) (s : ByteArray) (g : Uh h) (hv : v.k = 6 → yO h v.r = true) : Fn Tryz.prog 48 [hpD md h,.agg (vlD v),.v (.string s)] (.v (.bool (fixS h v s))) := by
 refine yL zJ Tryz.func48 rfl rfl rfl rfl rfl rfl ?_;intro w0 s0 mx;refine zL 100 ?_;refine zB ?_;refine zB (zE zJ [] 200 rfl ?_);refine zF ?_;refine zT _ (yY h v hv) rfl ?_;refine zF ?_;refine zC (zA (zL 300 ?_));refine zR (zL 400 ?_);refine zZ (fun c3 => ?_) (fun c3 => ?_)
 ·
  refine zL 500 ?_;refine zK (zQ (zM ?_));exact FinV.ret rfl (SubP.bool (by rw [fixS,Ab (by simpa using c3)];rfl))
 ·
  refine zL 600 ?_;refine zS rfl (fun c5 => ?_) (fun c5 => ?_)
  ·have hk10 : (zO h v).kind = 10 := by simpa using c5
   have hcin := inst_cls g hk10;refine zL 700 ?_;refine zR (zB (zL 800 ?_));refine zZ (fun c7 => ?_) (fun c7 => ?_)
   ·
    refine zN (zA (zZ (fun c7x => ?_) (fun c7x => ?_)))
    ·
     refine zB (zE zJ [] 1200 rfl ?_);refine zF ?_;refine zT _ (wW h (zO h v).cls 28 hcin) rfl ?_;refine zF ?_;refine zC (zA (zK (zQ (zQ (zM ?_)))));exact FinV.ret rfl (SubP.bool (by simp_all [fixS,argN,wB,ctxN,vX,bM]))
    ·
     simp_all
   ·
    refine zL 900 ?_;refine zZ (fun c8 => ?_) (fun c8 => ?_)
    ·
     refine zN (zA (zZ (fun c8x => ?_) (fun c8x => ?_)))
     ·
      refine zB (zE zJ [] 1200 rfl ?_);refine zF ?_;refine zT _ (wW h (zO h v).cls 28 hcin) rfl ?_;refine zF ?_;refine zC (zA (zK (zQ (zQ (zM ?_)))));exact FinV.ret rfl (SubP.bool (by simp_all [fixS,argN,wB,ctxN,vX,bM]))
     ·
      simp_all
    ·
     refine zL 1000 ?_;refine zZ (fun c9 => ?_) (fun c9 => ?_)
     ·
      refine zN (zA (zZ (fun c9x => ?_) (fun c9x => ?_)))
      ·
       refine zB (zE zJ [] 1200 rfl ?_);refine zF ?_;refine zT _ (wW h (zO h v).cls 28 hcin) rfl ?_;refine zF ?_;refine zC (zA (zK (zQ (zQ (zM ?_)))));exact FinV.ret rfl (SubP.bool (by simp_all [fixS,argN,wB,ctxN,vX,bM]))
      ·
       simp_all
     ·
      refine yT zJ [] 1100 ?_;refine zA (zZ (fun c10 => ?_) (fun c10 => ?_))
      ·
       refine zB (zE zJ [] 1200 rfl ?_);refine zF ?_;refine zT _ (wW h (zO h v).cls 28 hcin) rfl ?_;refine zF ?_;refine zC (zA (zK (zQ (zQ (zM ?_)))));exact FinV.ret rfl (SubP.bool (by simp_all [fixS,argN,wB,ctxN,vX,bM]))
      ·
       refine zL 1300 ?_;refine zZ (fun c12 => ?_) (fun c12 => ?_)
       ·
        refine zB (zE zJ [] 1400 rfl ?_);refine zF ?_;refine zT _ (wW h (zO h v).cls 48 hcin) rfl ?_;refine zF ?_;refine zC (zA (zK (zQ (zQ (zM ?_)))));exact FinV.ret rfl (SubP.bool (by simp_all [fixS,argN,wB,ctxN,vX,bM]))
       ·
        refine zN (zP (zP (zA (zL 1500 ?_))));refine zK ?_;exact FinV.ret rfl (SubP.bool (by simp_all [fixS,argN,wB,ctxN,vX,bM]))
  ·
   refine zN (zP (zA (zL 1500 ?_)));refine zK ?_;exact FinV.ret rfl (SubP.bool (by simp_all [fixS,argN,wB,ctxN,vX,bM]))
theorem uO0 {P : Program} {K : DS → Prop} {p : Prop} {r : Out} (hr : r.sat P K) (hp : p := by first | (simp only [Av,kbs,Bi,Ak,Aq];omega) | (simp only [Av,kbs,Bi,Ak,Aq];have := hz;omega) | exact Dz) : (Out.need p r).sat P K := ⟨hp,hr⟩
theorem cP0 {P : Program} {K : DS → Prop} {p : Prop} {r : Out} (hr : r.sat P K) (hp : p := by first | exact ⟨by decide,by rw [hp3];decide⟩ | exact ⟨rfl,by rw [hp3];decide⟩ | exact Dz) : (Out.need p r).sat P K := ⟨hp,hr⟩
theorem kD0 {T : List (Nat × TI)} {rs : List ResultVar} {n0 : Nat} {out d : D} {own' : List DOwn} {S : DS} (hk : Nat.ble n0 2 = true := by rfl) (h : finH T S rs = some d := by rfl) (hs : Sub d (out.ren (qH (iota n0) 2)) := by exact Sub.ofP (SubP.agg (SubPs.refl _)) rfl rfl) (ho : mA (iota n0) 2 S.ow 0 own' := by exact ⟨⟨rfl,Sub.mo rfl,rfl,trivial⟩,SubO.mp rfl,trivial⟩) : FinH T rs n0 out own' .ret S := FinH.ret 2 hk h hs ho
set_option maxHeartbeats 2000000 in
theorem Set_G (h : List Ob) (v : Vl) (s : ByteArray) (w : Vl) (hh : HpIn h) (g : Uh h) (hv : qQ h v = true) (hs : s.size ≤ 100) : FnG Tryz.prog 12 [.bp 0 0,.agg (vlD v),.v (.string s),.agg (vlD w)] (hpO h) (.agg (stD (setS h v s w).1)) (hpO (setS h v s w).2) := by
 have hg5 := g.hi;obtain ⟨R,hR⟩ : ∃ R,R = setS h v s w := ⟨_,rfl⟩;rw [← hR];have hvr := vC hv;have hcf := cf_of g hv;have hci := clA_in g hcf;have hnz := nm_sz g hci;have hhl := hh.len;have hz : qB.size = 1 ∧ nwaB.size = 28 ∧ cnwB.size = 19 ∧ cndB.size = 19 ∧ atB.size = 11 ∧ cqB.size = 7 ∧ mqB.size = 8 ∧ nhB.size = 20 := by decide
 have hoz := obj_sz g v;refine qS zJ Tryz.func12 rfl rfl rfl rfl rfl rfl rfl ?_;intro w0 s0 mx;refine zL 100 ?_;refine zB ?_;refine zB (zU zJ [] [[],[0],[0,1],[],[0,1,2,3]] 200 yP (by kernel_rfl) rfl ?_);refine zF ?_;refine yN _ (closed_ok h v hvr) rfl rfl ?_;refine zF ?_;refine zC (zA (zS rfl (fun c1 => ?_) (fun c1 => ?_)))
 ·have c1w : wokS h v = false := by simpa using c1
  refine zB (zU zJ [] mK24 300 yP (by kernel_rfl) rfl ?_);repeat (first | refine zG ?_ | refine zH ?_ | refine uO0 ?_)
  refine yN _ (bS h v g hcf) rfl rfl ?_;repeat (first | refine zG ?_ | refine zH ?_ | refine uO0 ?_)
  refine zT _ (jD _) rfl ?_;repeat (first | refine zG ?_ | refine zH ?_ | refine uO0 ?_)
  refine zC (zA (zK (zM ?_)));have hn : R = (raS 36 (qB ++ (zX h (clA h v)).name ++ nwaB),h) := by
   rw [hR];unfold setS chS;rw [Ab c1w]
  subst hn;exact kD0
 ·have c1w : wokS h v = true := by simpa using c1
  have wr := wr_of g c1w;have hwr := wr.inr;have hwe := wr.eo;have hwn := wr.nl;have hwi := wr.il;have hwq := wr.ni;have hwt := wr.st;refine zN (zA ?_);refine zB (zU zJ [] mK1 400 yP (by kernel_rfl) rfl ?_);refine zF ?_;refine yN _ (yY h v hvr) rfl rfl ?_;refine zF ?_;refine zC (zA ?_);refine yH [0,2,5,7,8,9] [0,1,2,3,4,205] 410 [] [(205,.box 36 (obD (zO h v)))] ?_;refine ⟨⟨yG,⟨⟨rfl,SubL.same rfl⟩,yD⟩,rfl,rfl⟩,?_⟩;refine xF (ι := {_u : Unit // R = chF h v s cnwB (setF h v s w)}) [0,2,5,7,8,9] [0,1,2,3,4,205] 1600 (fun _ => []) (fun _ => []) ?_;refine ⟨?_,fun j => ?_⟩
  ·refine zL 500 ?_;refine zS rfl (fun c4 => ?_) (fun c4 => ?_)
   ·have c4w : (zO h v).kind = 10 := by simpa using c4
    have hcin := inst_cls g c4w;have hfr : (chV h v s).k = 6 → yO h (chV h v s).r = true := fun hk9 => jL0 hh g hcin s hk9;have hfind := vS (md := true) h (zO h v).cls s hh hcin (cok_of hh g hcin);refine zB (zU zJ [] mK13 600 yP (by kernel_rfl) rfl ?_);refine zF ?_;refine yN _ (hfind) rfl rfl ?_;refine zF ?_;refine zC (zA (zB ?_));refine zB (zU zJ [] mK1 700 yP (by kernel_rfl) rfl ?_);refine zF ?_;refine yN _ (yY h (chV h v s) hfr) rfl rfl ?_;refine zF ?_;refine zC (zA ?_);refine yH [0,2,5,7,8,9,10,12,13] [0,1,2,3,4,205,511,605] 710 [] [(605,.box 36 (obD (zO h (chV h v s))))] ?_;refine ⟨⟨yG,⟨⟨rfl,SubL.same rfl⟩,yD⟩,rfl,rfl⟩,?_⟩;refine zL 800 ?_;refine zS rfl (fun c7 => ?_) (fun c7 => ?_)
    ·have c7w : (chO h v s).isSome = true ∧ (zO h (chV h v s)).kind = 12 := by
      have h7 : ((chO h v s).isSome && decide ((zO h (chV h v s)).kind = 12)) = true := c7
      rwa [Ah,Am] at h7
     have hp3 := prop_item g c7w.2;refine zB ?_;refine zB (zE zJ [] 900 rfl ?_);repeat (first | refine zG ?_ | refine zH ?_ | refine cP0 ?_)
     refine zC (zA (zS rfl (fun c8 => ?_) (fun c8 => ?_)))
     ·have c8w : ((zO h (chV h v s)).items.getD 1 vl0).k = 0 := by simpa using c8
      refine zB (zE zJ [] 1000 rfl ?_);repeat (first | refine zG ?_ | refine zH ?_ | refine uO0 ?_)
      refine zT _ (jD _) rfl ?_;repeat (first | refine zG ?_ | refine zH ?_ | refine uO0 ?_)
      refine zC (zA (zK (zM (zM ?_))));refine kL ?_;have hn : R = (raS 36 (atB ++ s ++ cnwB),h) := by
       rw [hR];unfold setS chS;rw [Aa (by rw [c1w];decide),Ab ⟨c4w,c7w.1,c7w.2,c8w⟩]
      subst hn;exact kD0
     ·have c8w : ¬ ((zO h (chV h v s)).items.getD 1 vl0).k = 0 := by simpa using c8
      refine zN (zA ?_);refine zB (zU zJ [] [[],[0],[0,1],[0,1,2],[],[],[4,5],(rgN 7),(rgN 8)] 1100 yP (by kernel_rfl) rfl ?_);repeat (first | refine zG ?_ | refine zH ?_ | refine cP0 ?_)
      refine zT _ ((tE _ [v,w]).args ⟨SubP.refl _,SubP.slrSl (m := false) rfl,trivial⟩) rfl ?_;repeat (first | refine zG ?_ | refine zH ?_ | refine cP0 ?_)
      refine zC (zA (zK (zM ?_)));refine kL ?_;have hn : R = (caS ((zO h (chV h v s)).items.getD 1 vl0) [v,w],h) := by
       rw [hR];unfold setS chS;rw [Aa (by rw [c1w];decide),Aa (fun hh9 => c8w hh9.2.2.2),Ab ⟨c4w,c7w⟩]
      subst hn;exact kD0
    ·have c7w : ¬ ((chO h v s).isSome = true ∧ (zO h (chV h v s)).kind = 12) := by
      rintro ⟨h8,h9⟩;have h7 : ((chO h v s).isSome && decide ((zO h (chV h v s)).kind = 12)) = false := c7;rw [h8,Bg h9] at h7
      cases h7
     refine zN (zA ?_);refine zB (zU zJ [] [[],[0],[0,1],[],[],[],[4,5],(rgN 7),(rgN 8),(rgN 9),(rgN 9),[],[0,1,2,3,4,5,6,7,8,9,11],(rgN 13)] 1200 yP (by kernel_rfl) rfl ?_);refine zF ?_;refine yN _ ((wC h (chV h v s) onWr [v,w] hh g hfr (by show 2 ≤ 1000000;decide)).args ⟨SubP.refl _,SubP.refl _,SubP.refl _,SubP.slrSl (m := false) rfl,trivial⟩) rfl rfl ?_;refine zF ?_;refine zC (zA (zL 1300 ?_));refine zS rfl (fun c12 => ?_) (fun c12 => ?_)
     ·have c12w : (chO h v s).isSome = true ∧ (spS h (chV h v s) onWr).2.2 = true := by
       have h7 : ((chO h v s).isSome && (spS h (chV h v s) onWr).2.2) = true := c12
       rwa [Ah] at h7
      refine zL 1400 ?_;refine zK ?_;refine kL ?_;have hn : R = (caS (spS h (chV h v s) onWr).1 ((spS h (chV h v s) onWr).2.1 ++ [v,w]),h) := by
       rw [hR];unfold setS chS;rw [Aa (by rw [c1w];decide),Aa (fun hh9 => c7w ⟨hh9.2.1,hh9.2.2.1⟩),Aa (fun hh9 => c7w ⟨hh9.2.1,hh9.2.2⟩),Ab ⟨c4w,c12w⟩]
      subst hn;exact kD0
     ·have c12w : ¬ ((chO h v s).isSome = true ∧ (spS h (chV h v s) onWr).2.2 = true) := by
       rintro ⟨h8,h9⟩;have h7 : ((chO h v s).isSome && (spS h (chV h v s) onWr).2.2) = false := c12;rw [h8,h9] at h7
       cases h7
      refine zN ?_;have hj : R = chF h v s cnwB (setF h v s w) := by
       rw [hR];unfold setS chS;rw [Aa (by rw [c1w];decide),Aa (fun hh9 => c7w ⟨hh9.2.1,hh9.2.2.1⟩),Aa (fun hh9 => c7w ⟨hh9.2.1,hh9.2.2⟩),Aa (fun hh9 => c12w ⟨hh9.2.1,hh9.2.2⟩)]
      exact qG ⟨(),hj⟩ ⟨yG,yD,rfl,rfl⟩
   ·have c4w : ¬ (zO h v).kind = 10 := by simpa using c4
    refine zN ?_;have hj : R = chF h v s cnwB (setF h v s w) := by
     rw [hR];unfold setS chS;rw [Aa (by rw [c1w];decide),Aa (fun hh9 => c4w hh9.1),Aa (fun hh9 => c4w hh9.1),Aa (fun hh9 => c4w hh9.1)]
    exact qG ⟨(),hj⟩ ⟨yG,yD,rfl,rfl⟩
  have hj := j.2;refine zB ?_;refine zB (zU zJ [] mK8 1700 yP (by kernel_rfl) rfl ?_);refine zF ?_;refine yN _ (fixed_ok h v s g hvr) rfl rfl ?_;refine zF ?_;refine zC (zA (zS rfl (fun c14 => ?_) (fun c14 => ?_)))
  ·have c14w : fixS h v s = true := by simpa using c14
   refine zB (zE zJ [] 1800 rfl ?_);repeat (first | refine zG ?_ | refine zH ?_ | refine uO0 ?_)
   refine zT _ (jD _) rfl ?_;repeat (first | refine zG ?_ | refine zH ?_ | refine uO0 ?_)
   refine zC (zA (zK (zM ?_)));have hn : R = (raS 36 (atB ++ s ++ cnwB),h) := by
    rw [hj,chF,Ab c14w]
   subst hn;exact kD0
  ·have c14w : fixS h v s = false := by simpa using c14
   refine zN (zA ?_);refine zB (zE zJ [] 1800 rfl ?_);refine zF ?_;refine zT _ (gF (zO h v).names s) rfl ?_;refine zF ?_;refine zC (zA (zB (zL 1900 ?_)));refine zS rfl (fun c17 => ?_) (fun c17 => ?_)
   ·have c17w : (ixI (zO h v).names s) < 0 ∧ 200 ≤ (zO h v).names.length := by
     have h9 : (ixI (zO h v).names s) < 0 ∧ (((zO h v).names.length : Nat) : Int) = 200 := by simpa using c17
     exact ⟨h9.1,by omega⟩
    refine zB (zE zJ [] 2000 rfl ?_);refine zF ?_;refine zT _ (cT 42 tooB) rfl ?_;refine zF ?_;refine zC (zA (zK (zM ?_)));have hn : R = (raS 42 tooB,h) := by
     rw [hj,chF,Aa (by rw [c14w];decide),setF,Ab c17w]
    subst hn;exact kD0
   ·have c17w : ¬ ((ixI (zO h v).names s) < 0 ∧ 200 ≤ (zO h v).names.length) := by
     intro h9;have h8 : (((zO h v).names.length : Nat) : Int) = 200 := by omega
     have h7 := c17;simp [h9.1,h8] at h7
    refine zN (zA ?_);refine zB (zU zJ [1121,1124] [[],[0],[0,1],[],[3],(rgN 5),(rgN 6),(rgN 7)] 2000 yP (by kernel_rfl) rfl ?_);refine zF ?_;refine yK _ _ (CloneSx_G (zO h v).names (by omega)) rfl ?_;refine zF ?_;refine yK _ _ (gN0 (zO h v).items (by omega)) rfl ?_;refine zF ?_;refine zC (zA ?_);refine yH [0,2,5,7,8,16] [2,3,4] 2010 [(17,.mo 1902 (zO h v).names.length),(18,.mo 1905 (zO h v).items.length)] [(0,.box 24 [.mo 1 h.length]),(1,.mrow 36 10 (.map h obD ob0)),(1902,.mrow 9 1 (.map (zO h v).names sD ByteArray.empty)),(1905,.mrow 29 7 (.map (zO h v).items vlD vl0))] ?_;refine ⟨⟨⟨Sub.mo rfl,Sub.mo rfl,yG⟩,⟨⟨rfl,Sub.mo rfl,rfl,trivial⟩,SubO.mp rfl,SubO.mr rfl,SubO.mr rfl,yD⟩,rfl,rfl⟩,?_⟩;refine xF (ι := Unit) [0,5,8] [0,1,2,4] 2500 (fun _ => [(17,.mo 1902 (qE (zO h v) s w).names.length),(18,.mo 1905 (qE (zO h v) s w).items.length)]) (fun _ => [(1902,.mrow 9 1 (.map (qE (zO h v) s w).names sD ByteArray.empty)),(1905,.mrow 29 7 (.map (qE (zO h v) s w).items vlD vl0))]) ?_;refine ⟨?_,fun _ => ?_⟩
    ·refine zL 2100 ?_;refine zS rfl (fun c20 => ?_) (fun c20 => ?_)
     ·have c20w : (ixI (zO h v).names s) < 0 := by simpa using c20
      have hpn : (qE (zO h v) s w).names = (zO h v).names ++ [s] := by rw [qE,Ab c20w]
      have hpi : (qE (zO h v) s w).items = (zO h v).items ++ [w] := by rw [qE,Ab c20w]
      refine zU zJ [] mK25 2200 yP (by kernel_rfl) rfl ?_;repeat (first | refine zG ?_ | refine zH ?_ | refine zW (by first | rfl | (simp only [MR.len];done) | (simp only [MR.len,Ao];omega) | exact Dz) ?_)
      refine zC ?_;exact qG () ⟨⟨Sub.mo (by rw [hpn,Ae];rfl),Sub.mo (by rw [hpi,Ae];rfl),yG⟩,⟨SubO.mr (by rw [hpn];exact (Ad (f := sD) (l₁ := (zO h v).names) (l₂ := [s])).symm),SubO.mr (by rw [hpi];exact (Ad (f := vlD) (l₁ := (zO h v).items) (l₂ := [w])).symm),yD⟩,rfl,rfl⟩
     ·have c20w : ¬ (ixI (zO h v).names s) < 0 := by simpa using c20
      have hkl := xJ0 (zO h v).names s;have hpn : (qE (zO h v) s w).names = (zO h v).names := by rw [qE,Aa c20w]
      have hpi : (qE (zO h v) s w).items = (zO h v).items.set (ixI (zO h v).names s).toNat w := by rw [qE,Aa c20w]
      refine zE zJ [] 2300 rfl ?_;repeat (first | refine zG ?_ | refine zH ?_ | refine zW (by first | exact ⟨by omega,by omega⟩ | exact ⟨by simp [MR.len],by simp [MR.len];omega⟩ | rfl | (simp only [MR.len];done) | exact Dz) ?_)
      refine zC ?_;exact qG () ⟨⟨Sub.mo (by rw [hpn]),Sub.mo (by rw [hpi,Bp]),yG⟩,⟨SubO.mr (by rw [hpn]),SubO.mr (by rw [hpi];exact (List.map_set (f := vlD)).symm),yD⟩,rfl,rfl⟩
    refine uQ 1902 rfl (by repeat (first | exact trivial | exact rfl | exact (fun _ => rfl) | exact (fun h => absurd h (by decide)) | refine ⟨?_,?_⟩)) (by repeat (first | exact trivial | exact rfl | exact (fun _ => rfl) | exact (fun h => absurd h (by decide)) | refine ⟨?_,?_⟩)) ?_;refine uQ 1905 rfl (by repeat (first | exact trivial | exact rfl | exact (fun _ => rfl) | exact (fun h => absurd h (by decide)) | refine ⟨?_,?_⟩)) (by repeat (first | exact trivial | exact rfl | exact (fun _ => rfl) | exact (fun h => absurd h (by decide)) | refine ⟨?_,?_⟩)) ?_;refine zB (zU zJ [] [[],[0],[0,1],[0,1,2],[],[4],[],[6],[6,7],[6,7,8],[],[10],[],[],[0,1,2,3,4,5,6,7,8,9,12],[0,1,2,3,4,5,6,7,8,9,12,14],[0,1,2,3,4,5,6,7,8,9,12,14,15],(rgN 17),(rgN 18),(rgN 19)] 2600 yP (by kernel_rfl) rfl ?_);repeat (first | refine zG ?_ | refine zH ?_ | refine zW (by first | exact ⟨hwr.1,hwr.2⟩ | exact ⟨rfl,hwr.2⟩ | exact ⟨by simp [MR.len],by simpa [MR.len] using hwr.2⟩ | rfl | (simp only [MR.len];done) | exact Dz) ?_)
    refine zC (zA ?_);refine yH [0,5,8] [2,4] 2610 [] [(0,.box 24 [.mo 1 (h.set v.r.toNat (qE (zO h v) s w)).length]),(1,.mrow 36 10 (.map (h.set v.r.toNat (qE (zO h v) s w)) obD ob0))] ?_;refine ⟨⟨yG,⟨⟨rfl,Sub.mo (by simp),rfl,trivial⟩,SubO.mp (upd2_ob (by rw [show h.getD v.r.toNat ob0 = zO h v from hwe.symm];exact (mW0 _ _ _ _ _).trans (by rw [put_eq]))),yD⟩,rfl,rfl⟩,?_⟩;refine zB (zE zJ [1159] 2700 rfl ?_);refine zF ?_;refine yK _ _ (changed_G (h.set v.r.toNat (qE (zO h v) s w)) v (by rw [Bp];omega) (inH_set hwr) (by rw [wY0 hwr,wO0];exact hwt)) rfl ?_;refine zF ?_;refine zC (zA (zL 2800 ?_));refine zK ?_;have hn : R = (vlS vl0,h.set v.r.toNat (uU (qE (zO h v) s w))) := by
     rw [hj,chF,Aa (by rw [c14w];decide),setF,Aa c17w]
    subst hn;exact FinH.ret 2 rfl rfl (Sub.ofP (SubP.agg (by repeat (first | exact trivial | exact SubP.refl _ | exact SubP.nilSl rfl | refine ⟨?_,?_⟩))) rfl rfl) ⟨⟨rfl,Sub.mo (by simp),rfl,trivial⟩,SubO.mp (by rw [wY0 hwr,List.set_set]),trivial⟩
end Gq
end Go.Proofs.YtifgelimmddkpaaGreatDoor
