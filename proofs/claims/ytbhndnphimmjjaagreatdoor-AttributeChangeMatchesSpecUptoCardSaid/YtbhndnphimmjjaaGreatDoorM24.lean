/- Part 24 of the proof. -/
import Derived.Test.YtbhndnphimmjjaaGreatDoorM23
namespace Go.Proofs.YtbhndnphimmjjaaGreatDoor
open Go.RowKit
variable {md me : Bool}
theorem upd2_ob {h : List Ob} {n : Nat} {o : Ob} {r1 row : List D} (hr : D.pvs row = D.pvs (obD o)) : D.pvss (((h.map obD).set n r1).set n row) = D.pvss ((h.set n o).map obD) := by
 rw [List.set_set];exact wV hr
theorem yV0 (o : Ob) (k m : Nat) (N : List ByteArray) (I : List Vl) : D.pvs ((obD o).take 5 ++ [.own k 1 (N.map sD),.own m 7 (I.map vlD)] ++ (obD o).drop 7) = D.pvs (obD { o with names := N,items := I }) := by
 show D.pvs [_,_,_,_,_,D.own k 1 (N.map sD),D.own m 7 (I.map vlD),_,_,_] = D.pvs [_,_,_,_,_,D.sl false 1 N sD ByteArray.empty,D.sl false 7 I vlD vl0,_,_,_];simp only [D.pvs,D.pv,yK,List.map_map];rfl
theorem put_eq (o : Ob) (s : ByteArray) (w : Vl) : { o with names := (qD o s w).names,items := (qD o s w).items } = qD o s w := by
 unfold qD;split <;> rfl
theorem kJ {h : List Ob} {n : Int} {o : Ob} (hn : inH h n) : yG (h.set n.toNat o) n = o := by
 show (h.set n.toNat o).getD n.toNat ob0 = o;rw [List.getD_eq_getElem?_getD,List.getElem?_set,if_pos rfl,if_pos hn.2];rfl
theorem mS0 {h : List Ob} {n m : Int} {o : Ob} (hn : inH h n) : inH (h.set m.toNat o) n := ⟨hn.1,by rw [List.length_set];exact hn.2⟩
theorem cut_row {h : List Ob} {n : Nat} {o1 o2 : Ob} {row : List D} (hr : D.pvs row = D.pvs (obD o2)) : D.pvss (((h.set n o1).map obD).set n row) = D.pvss ((h.set n o2).map obD) := by
 rw [wV hr,List.set_set]
theorem mC0 (o : Ob) (s : ByteArray) (w : Vl) : (qD o s w).state = o.state := by
 unfold qD;split <;> rfl
theorem wR {P : Program} {K : DS → Prop} {p : Prop} {r : Out} (hr : r.sat P K) (hp : p := by first | (simp only [ByteArray.size_append,kbs,List.size_toArray,List.length_cons,List.length_nil];omega) | (simp only [ByteArray.size_append,kbs,List.size_toArray,List.length_cons,List.length_nil];have := hz;omega) | first | exact trivial | omega | exact ini (by omega) (by omega) | (intro hh;simp at hh;exact ini (by omega) (by omega)) | (intro hh;simp at hh ⊢;omega) | (simp at *;omega) | (simp_all;done)) : (Out.need p r).sat P K := ⟨hp,hr⟩
theorem gL0 {P : Program} {K : DS → Prop} {p : Prop} {r : Out} (hr : r.sat P K) (hp : p := by first | exact ⟨by decide,by rw [hp3];decide⟩ | exact ⟨rfl,by rw [hp3];decide⟩ | first | exact trivial | omega | exact ini (by omega) (by omega) | (intro hh;simp at hh;exact ini (by omega) (by omega)) | (intro hh;simp at hh ⊢;omega) | (simp at *;omega) | (simp_all;done)) : (Out.need p r).sat P K := ⟨hp,hr⟩
theorem dG0 {P : Program} {K : DS → Prop} {p : Prop} {r : Out} (hr : r.sat P K) (hp : p := by first | exact ⟨hwr.1,hwr.2⟩ | exact ⟨rfl,hwr.2⟩ | exact ⟨by simp [MR.len],by simpa [MR.len] using hwr.2⟩ | rfl | (simp only [MR.len];done) | first | exact trivial | omega | exact ini (by omega) (by omega) | (intro hh;simp at hh;exact ini (by omega) (by omega)) | (intro hh;simp at hh ⊢;omega) | (simp at *;omega) | (simp_all;done)) : (Out.need p r).sat P K := ⟨hp,hr⟩
theorem kU {T : List (Nat × TI)} {rs : List ResultVar} {n0 : Nat} {out d : D} {own' : List DOwn} {S : DS} (hk : Nat.ble n0 2 = true := by rfl) (h : finH T S rs = some d := by rfl) (hs : Sub d (out.ren (qF (iota n0) 2)) := by exact Sub.ofP (SubP.agg (SubPs.refl _)) rfl rfl) (ho : dS (iota n0) 2 S.ow 0 own' := by exact ⟨⟨rfl,Sub.mo rfl,rfl,trivial⟩,SubO.mp rfl,trivial⟩) : FinH T rs n0 out own' .ret S := FinH.ret 2 hk h hs ho
set_option maxHeartbeats 2000000 in
theorem Set_G (h : List Ob) (v : Vl) (s : ByteArray) (w : Vl) (hh : HpIn h) (g : Uh h) (hv : hasS h v = true) (hs : s.size ≤ 100) : FnG Tryz.prog 13 [.bp 0 0,.agg (vlD v),.v (.string s),.agg (vlD w)] (hpO h) (.agg (stD (setS h v s w).1)) (hpO (setS h v s w).2) := by
 have hg5 := g.hi;obtain ⟨R,hR⟩ : ∃ R,R = setS h v s w := ⟨_,rfl⟩;rw [← hR];have hvr := xD hv;have hcf := gU0 g hv;have hci := wO g hcf;have hnz := cY g hci;have hhl := hh.len;have hz : qB.size = 1 ∧ nwaB.size = 28 ∧ cnwB.size = 19 ∧ cndB.size = 19 ∧ atB.size = 11 ∧ cqB.size = 7 ∧ mqB.size = 8 ∧ nhB.size = 20 := by decide
 have hoz := tM g v;refine vL zN Tryz.func13 rfl rfl rfl rfl rfl rfl rfl ?_;intro w0 s0 mx;refine zJ 100 ?_;refine zB ?_;refine zB (zW zN [] [[],[0],[0,1],[],[0,1,2,3]] 200 yQ (by kernel_rfl) rfl ?_);refine zH ?_;refine qG _ (jI0 h v hvr) rfl rfl ?_;refine zH ?_;refine zC (zA (zS rfl (fun c1 => ?_) (fun c1 => ?_)))
 ·have c1w : wokS h v = false := by simpa using c1
  refine zB (zW zN [] mK4 300 yQ (by kernel_rfl) rfl ?_);repeat (first | refine zF ?_ | refine zG ?_ | refine wR ?_)
  refine qG _ (gN h v g hcf) rfl rfl ?_;repeat (first | refine zF ?_ | refine zG ?_ | refine wR ?_)
  refine zV _ (qX _) rfl ?_;repeat (first | refine zF ?_ | refine zG ?_ | refine wR ?_)
  refine zC (zA (zM (zL ?_)));have hn : R = (raS 36 (qB ++ (yG h (clA h v)).name ++ nwaB),h) := by
   rw [hR];unfold setS chS;rw [if_pos c1w]
  subst hn;exact kU
 ·have c1w : wokS h v = true := by simpa using c1
  have wr := gG0 g c1w;have hwr := wr.inr;have hwe := wr.eo;have hwn := wr.nl;have hwi := wr.il;have hwq := wr.ni;have hwt := wr.st;refine zK (zA ?_);refine zB (zW zN [] mK1 400 yQ (by kernel_rfl) rfl ?_);refine zH ?_;refine qG _ (qP h v hvr) rfl rfl ?_;refine zH ?_;refine zC (zA ?_);refine yO [0,2,5,7,8,9] [0,1,2,3,4,205] 410 [] [(205,.box 36 (obD (zR h v)))] ?_;refine ⟨⟨yI,⟨⟨rfl,SubL.same rfl⟩,yF⟩,rfl,rfl⟩,?_⟩;refine vN (ι := {_u : Unit // R = chF h v s cnwB (setF h v s w)}) [0,2,5,7,8,9] [0,1,2,3,4,205] 1600 (fun _ => []) (fun _ => []) ?_;refine ⟨?_,fun j => ?_⟩
  ·refine zJ 500 ?_;refine zS rfl (fun c4 => ?_) (fun c4 => ?_)
   ·have c4w : (zR h v).kind = 10 := by simpa using c4
    have hcin := uZ g c4w;have hfr : (chV h v s).k = 6 → qC h (chV h v s).r = true := fun hk9 => gS0 hh g hcin s hk9;have hfind := gW (md := true) h (zR h v).cls s hh hcin (kW hh g hcin);refine zB (zW zN [] mK12 600 yQ (by kernel_rfl) rfl ?_);refine zH ?_;refine qG _ (hfind) rfl rfl ?_;refine zH ?_;refine zC (zA (zB ?_));refine zB (zW zN [] mK1 700 yQ (by kernel_rfl) rfl ?_);refine zH ?_;refine qG _ (qP h (chV h v s) hfr) rfl rfl ?_;refine zH ?_;refine zC (zA ?_);refine yO [0,2,5,7,8,9,10,12,13] [0,1,2,3,4,205,511,605] 710 [] [(605,.box 36 (obD (zR h (chV h v s))))] ?_;refine ⟨⟨yI,⟨⟨rfl,SubL.same rfl⟩,yF⟩,rfl,rfl⟩,?_⟩;refine zJ 800 ?_;refine zS rfl (fun c7 => ?_) (fun c7 => ?_)
    ·have c7w : (chO h v s).isSome = true ∧ (zR h (chV h v s)).kind = 12 := by
      have h7 : ((chO h v s).isSome && decide ((zR h (chV h v s)).kind = 12)) = true := c7
      rwa [Bool.and_eq_true,decide_eq_true_eq] at h7
     have hp3 := kF g c7w.2;refine zB ?_;refine zB (zE zN [] 900 rfl ?_);repeat (first | refine zF ?_ | refine zG ?_ | refine gL0 ?_)
     refine zC (zA (zS rfl (fun c8 => ?_) (fun c8 => ?_)))
     ·have c8w : ((zR h (chV h v s)).items.getD 1 vl0).k = 0 := by simpa using c8
      refine zB (zE zN [] 1000 rfl ?_);repeat (first | refine zF ?_ | refine zG ?_ | refine wR ?_)
      refine zV _ (qX _) rfl ?_;repeat (first | refine zF ?_ | refine zG ?_ | refine wR ?_)
      refine zC (zA (zM (zL (zL ?_))));refine uF ?_;have hn : R = (raS 36 (atB ++ s ++ cnwB),h) := by
       rw [hR];unfold setS chS;rw [if_neg (by rw [c1w];decide),if_pos ⟨c4w,c7w.1,c7w.2,c8w⟩]
      subst hn;exact kU
     ·have c8w : ¬ ((zR h (chV h v s)).items.getD 1 vl0).k = 0 := by simpa using c8
      refine zK (zA ?_);refine zB (zW zN [] [[],[0],[0,1],[0,1,2],[],[],[4,5],(rgN 7),(rgN 8)] 1100 yQ (by kernel_rfl) rfl ?_);repeat (first | refine zF ?_ | refine zG ?_ | refine gL0 ?_)
      refine zV _ ((bR _ [v,w]).args ⟨SubP.refl _,SubP.slrSl (m := false) rfl,trivial⟩) rfl ?_;repeat (first | refine zF ?_ | refine zG ?_ | refine gL0 ?_)
      refine zC (zA (zM (zL ?_)));refine uF ?_;have hn : R = (caS ((zR h (chV h v s)).items.getD 1 vl0) [v,w],h) := by
       rw [hR];unfold setS chS;rw [if_neg (by rw [c1w];decide),if_neg (fun hh9 => c8w hh9.2.2.2),if_pos ⟨c4w,c7w⟩]
      subst hn;exact kU
    ·have c7w : ¬ ((chO h v s).isSome = true ∧ (zR h (chV h v s)).kind = 12) := by
      rintro ⟨h8,h9⟩;have h7 : ((chO h v s).isSome && decide ((zR h (chV h v s)).kind = 12)) = false := c7;rw [h8,decide_eq_true h9] at h7
      cases h7
     refine zK (zA ?_);refine zB (zW zN [] [[],[0],[0,1],[],[],[],[4,5],(rgN 7),(rgN 8),(rgN 9),(rgN 9),[],[0,1,2,3,4,5,6,7,8,9,11],(rgN 13)] 1200 yQ (by kernel_rfl) rfl ?_);refine zH ?_;refine qG _ ((pL h (chV h v s) onWr [v,w] hh g hfr (by show 2 ≤ 1000000;decide)).args ⟨SubP.refl _,SubP.refl _,SubP.refl _,SubP.slrSl (m := false) rfl,trivial⟩) rfl rfl ?_;refine zH ?_;refine zC (zA (zJ 1300 ?_));refine zS rfl (fun c12 => ?_) (fun c12 => ?_)
     ·have c12w : (chO h v s).isSome = true ∧ (spS h (chV h v s) onWr).2.2 = true := by
       have h7 : ((chO h v s).isSome && (spS h (chV h v s) onWr).2.2) = true := c12
       rwa [Bool.and_eq_true] at h7
      refine zJ 1400 ?_;refine zM ?_;refine uF ?_;have hn : R = (caS (spS h (chV h v s) onWr).1 ((spS h (chV h v s) onWr).2.1 ++ [v,w]),h) := by
       rw [hR];unfold setS chS;rw [if_neg (by rw [c1w];decide),if_neg (fun hh9 => c7w ⟨hh9.2.1,hh9.2.2.1⟩),if_neg (fun hh9 => c7w ⟨hh9.2.1,hh9.2.2⟩),if_pos ⟨c4w,c12w⟩]
      subst hn;exact kU
     ·have c12w : ¬ ((chO h v s).isSome = true ∧ (spS h (chV h v s) onWr).2.2 = true) := by
       rintro ⟨h8,h9⟩;have h7 : ((chO h v s).isSome && (spS h (chV h v s) onWr).2.2) = false := c12;rw [h8,h9] at h7
       cases h7
      refine zK ?_;have hj : R = chF h v s cnwB (setF h v s w) := by
       rw [hR];unfold setS chS;rw [if_neg (by rw [c1w];decide),if_neg (fun hh9 => c7w ⟨hh9.2.1,hh9.2.2.1⟩),if_neg (fun hh9 => c7w ⟨hh9.2.1,hh9.2.2⟩),if_neg (fun hh9 => c12w ⟨hh9.2.1,hh9.2.2⟩)]
      exact yY ⟨(),hj⟩ ⟨yI,yF,rfl,rfl⟩
   ·have c4w : ¬ (zR h v).kind = 10 := by simpa using c4
    refine zK ?_;have hj : R = chF h v s cnwB (setF h v s w) := by
     rw [hR];unfold setS chS;rw [if_neg (by rw [c1w];decide),if_neg (fun hh9 => c4w hh9.1),if_neg (fun hh9 => c4w hh9.1),if_neg (fun hh9 => c4w hh9.1)]
    exact yY ⟨(),hj⟩ ⟨yI,yF,rfl,rfl⟩
  have hj := j.2;refine zB ?_;refine zB (zW zN [] [[],[0],[0,1],[],[],(rgN 5)] 1700 yQ (by kernel_rfl) rfl ?_);refine zH ?_;refine qG _ (xI0 h v s g hvr) rfl rfl ?_;refine zH ?_;refine zC (zA (zS rfl (fun c14 => ?_) (fun c14 => ?_)))
  ·have c14w : fixS h v s = true := by simpa using c14
   refine zB (zE zN [] 1800 rfl ?_);repeat (first | refine zF ?_ | refine zG ?_ | refine wR ?_)
   refine zV _ (qX _) rfl ?_;repeat (first | refine zF ?_ | refine zG ?_ | refine wR ?_)
   refine zC (zA (zM (zL ?_)));have hn : R = (raS 36 (atB ++ s ++ cnwB),h) := by
    rw [hj,chF,if_pos c14w]
   subst hn;exact kU
  ·have c14w : fixS h v s = false := by simpa using c14
   refine zK (zA ?_);refine zB (zE zN [] 1800 rfl ?_);refine zH ?_;refine zV _ (vH (zR h v).names s) rfl ?_;refine zH ?_;refine zC (zA (zB (zJ 1900 ?_)));refine zS rfl (fun c17 => ?_) (fun c17 => ?_)
   ·have c17w : (ixI (zR h v).names s) < 0 ∧ 200 ≤ (zR h v).names.length := by
     have h9 : (ixI (zR h v).names s) < 0 ∧ (((zR h v).names.length : Nat) : Int) = 200 := by simpa using c17
     exact ⟨h9.1,by omega⟩
    refine zB (zE zN [] 2000 rfl ?_);refine zH ?_;refine zV _ (tZ 42 tooB) rfl ?_;refine zH ?_;refine zC (zA (zM (zL ?_)));have hn : R = (raS 42 tooB,h) := by
     rw [hj,chF,if_neg (by rw [c14w];decide),setF,if_pos c17w]
    subst hn;exact kU
   ·have c17w : ¬ ((ixI (zR h v).names s) < 0 ∧ 200 ≤ (zR h v).names.length) := by
     intro h9;have h8 : (((zR h v).names.length : Nat) : Int) = 200 := by omega
     have h7 := c17;simp [h9.1,h8] at h7
    refine zK (zA ?_);refine zB (zW zN [1121,1124] [[],[0],[0,1],[],[3],(rgN 5),(rgN 6),(rgN 7)] 2000 yQ (by kernel_rfl) rfl ?_);refine zH ?_;refine yN _ _ (jT0 (zR h v).names (by omega)) rfl ?_;refine zH ?_;refine yN _ _ (gF0 (zR h v).items (by omega)) rfl ?_;refine zH ?_;refine zC (zA ?_);refine yO [0,2,5,7,8,16] [2,3,4] 2010 [(17,.mo 1902 (zR h v).names.length),(18,.mo 1905 (zR h v).items.length)] [(0,.box 24 [.mo 1 h.length]),(1,.mrow 36 10 (.map h obD ob0)),(1902,.mrow 9 1 (.map (zR h v).names sD ByteArray.empty)),(1905,.mrow 29 7 (.map (zR h v).items vlD vl0))] ?_;refine ⟨⟨⟨Sub.mo rfl,Sub.mo rfl,yI⟩,⟨⟨rfl,Sub.mo rfl,rfl,trivial⟩,SubO.mp rfl,SubO.mr rfl,SubO.mr rfl,yF⟩,rfl,rfl⟩,?_⟩;refine vN (ι := Unit) [0,5,8] [0,1,2,4] 2500 (fun _ => [(17,.mo 1902 (qD (zR h v) s w).names.length),(18,.mo 1905 (qD (zR h v) s w).items.length)]) (fun _ => [(1902,.mrow 9 1 (.map (qD (zR h v) s w).names sD ByteArray.empty)),(1905,.mrow 29 7 (.map (qD (zR h v) s w).items vlD vl0))]) ?_;refine ⟨?_,fun _ => ?_⟩
    ·refine zJ 2100 ?_;refine zS rfl (fun c20 => ?_) (fun c20 => ?_)
     ·have c20w : (ixI (zR h v).names s) < 0 := by simpa using c20
      have hpn : (qD (zR h v) s w).names = (zR h v).names ++ [s] := by rw [qD,if_pos c20w]
      have hpi : (qD (zR h v) s w).items = (zR h v).items ++ [w] := by rw [qD,if_pos c20w]
      refine zW zN [] mK13 2200 yQ (by kernel_rfl) rfl ?_;repeat (first | refine zF ?_ | refine zG ?_ | refine zT (by first | rfl | (simp only [MR.len];done) | (simp only [MR.len,List.length_map];omega) | first | exact trivial | omega | exact ini (by omega) (by omega) | (intro hh;simp at hh;exact ini (by omega) (by omega)) | (intro hh;simp at hh ⊢;omega) | (simp at *;omega) | (simp_all;done)) ?_)
      refine zC ?_;exact yY () ⟨⟨Sub.mo (by rw [hpn,List.length_append];rfl),Sub.mo (by rw [hpi,List.length_append];rfl),yI⟩,⟨SubO.mr (by rw [hpn];exact (List.map_append (f := sD) (l₁ := (zR h v).names) (l₂ := [s])).symm),SubO.mr (by rw [hpi];exact (List.map_append (f := vlD) (l₁ := (zR h v).items) (l₂ := [w])).symm),yF⟩,rfl,rfl⟩
     ·have c20w : ¬ (ixI (zR h v).names s) < 0 := by simpa using c20
      have hkl := qH0 (zR h v).names s;have hpn : (qD (zR h v) s w).names = (zR h v).names := by rw [qD,if_neg c20w]
      have hpi : (qD (zR h v) s w).items = (zR h v).items.set (ixI (zR h v).names s).toNat w := by rw [qD,if_neg c20w]
      refine zE zN [] 2300 rfl ?_;repeat (first | refine zF ?_ | refine zG ?_ | refine zT (by first | exact ⟨by omega,by omega⟩ | exact ⟨by simp [MR.len],by simp [MR.len];omega⟩ | rfl | (simp only [MR.len];done) | first | exact trivial | omega | exact ini (by omega) (by omega) | (intro hh;simp at hh;exact ini (by omega) (by omega)) | (intro hh;simp at hh ⊢;omega) | (simp at *;omega) | (simp_all;done)) ?_)
      refine zC ?_;exact yY () ⟨⟨Sub.mo (by rw [hpn]),Sub.mo (by rw [hpi,List.length_set]),yI⟩,⟨SubO.mr (by rw [hpn]),SubO.mr (by rw [hpi];exact (List.map_set (f := vlD)).symm),yF⟩,rfl,rfl⟩
    refine jI 1902 rfl (by repeat (first | exact trivial | exact rfl | exact (fun _ => rfl) | exact (fun h => absurd h (by decide)) | refine ⟨?_,?_⟩)) (by repeat (first | exact trivial | exact rfl | exact (fun _ => rfl) | exact (fun h => absurd h (by decide)) | refine ⟨?_,?_⟩)) ?_;refine jI 1905 rfl (by repeat (first | exact trivial | exact rfl | exact (fun _ => rfl) | exact (fun h => absurd h (by decide)) | refine ⟨?_,?_⟩)) (by repeat (first | exact trivial | exact rfl | exact (fun _ => rfl) | exact (fun h => absurd h (by decide)) | refine ⟨?_,?_⟩)) ?_;refine zB (zW zN [] [[],[0],[0,1],[0,1,2],[],[4],[],[6],[6,7],[6,7,8],[],[10],[],[],[0,1,2,3,4,5,6,7,8,9,12],[0,1,2,3,4,5,6,7,8,9,12,14],[0,1,2,3,4,5,6,7,8,9,12,14,15],(rgN 17),(rgN 18),(rgN 19)] 2600 yQ (by kernel_rfl) rfl ?_);repeat (first | refine zF ?_ | refine zG ?_ | refine dG0 ?_)
    refine zC (zA ?_);refine yO [0,5,8] [2,4] 2610 [] [(0,.box 24 [.mo 1 (h.set v.r.toNat (qD (zR h v) s w)).length]),(1,.mrow 36 10 (.map (h.set v.r.toNat (qD (zR h v) s w)) obD ob0))] ?_;refine ⟨⟨yI,⟨⟨rfl,Sub.mo (by simp),rfl,trivial⟩,SubO.mp (upd2_ob (by rw [show h.getD v.r.toNat ob0 = zR h v from hwe.symm];exact (yV0 _ _ _ _ _).trans (by rw [put_eq]))),yF⟩,rfl,rfl⟩,?_⟩;refine zB (zE zN [1159] 2700 rfl ?_);refine zH ?_;refine yN _ _ (jJ0 (h.set v.r.toNat (qD (zR h v) s w)) v (by rw [List.length_set];omega) (mS0 hwr) (by rw [kJ hwr,mC0];exact hwt)) rfl ?_;refine zH ?_;refine zC (zA (zJ 2800 ?_));refine zM ?_;have hn : R = (vlS vl0,h.set v.r.toNat (jL (qD (zR h v) s w))) := by
     rw [hj,chF,if_neg (by rw [c14w];decide),setF,if_neg c17w]
    subst hn;exact FinH.ret 2 rfl rfl (Sub.ofP (SubP.agg (by repeat (first | exact trivial | exact SubP.refl _ | exact SubP.nilSl rfl | refine ⟨?_,?_⟩))) rfl rfl) ⟨⟨rfl,Sub.mo (by simp),rfl,trivial⟩,SubO.mp (by rw [kJ hwr,List.set_set]),trivial⟩
theorem tL0 {P : Program} {K : DS → Prop} {p : Prop} {r : Out} (hr : r.sat P K) (hp : p := by first | exact ⟨hwr.1,by rw [List.length_set];exact hwr.2⟩ | exact ⟨rfl,by rw [List.length_set];exact hwr.2⟩ | exact ⟨by simp [MR.len],by simpa [MR.len] using hwr.2⟩ | rfl | (simp only [MR.len];done) | first | exact trivial | omega | exact ini (by omega) (by omega) | (intro hh;simp at hh;exact ini (by omega) (by omega)) | (intro hh;simp at hh ⊢;omega) | (simp at *;omega) | (simp_all;done)) : (Out.need p r).sat P K := ⟨hp,hr⟩
set_option maxHeartbeats 2000000 in
theorem Delete_G (h : List Ob) (v : Vl) (s : ByteArray) (hh : HpIn h) (g : Uh h) (hv : hasS h v = true) (hs : s.size ≤ 100) : FnG Tryz.prog 16 [.bp 0 0,.agg (vlD v),.v (.string s)] (hpO h) (.agg (stD (delS h v s).1)) (hpO (delS h v s).2) := by
 have hg5 := g.hi;obtain ⟨R,hR⟩ : ∃ R,R = delS h v s := ⟨_,rfl⟩;rw [← hR];have hvr := xD hv;have hcf := gU0 g hv;have hci := wO g hcf;have hnz := cY g hci;have hhl := hh.len;have hz : qB.size = 1 ∧ nwaB.size = 28 ∧ cnwB.size = 19 ∧ cndB.size = 19 ∧ atB.size = 11 ∧ cqB.size = 7 ∧ mqB.size = 8 ∧ nhB.size = 20 := by decide
 have hoz := tM g v;refine vL zN Tryz.func16 rfl rfl rfl rfl rfl rfl rfl ?_;intro w0 s0 mx;refine zJ 100 ?_;refine zB ?_;refine zB (zW zN [] [[],[0],[0,1],[],[0,1,2,3]] 200 yQ (by kernel_rfl) rfl ?_);refine zH ?_;refine qG _ (jI0 h v hvr) rfl rfl ?_;refine zH ?_;refine zC (zA (zS rfl (fun c1 => ?_) (fun c1 => ?_)))
 ·have c1w : wokS h v = false := by simpa using c1
  refine zB (zW zN [] mK4 300 yQ (by kernel_rfl) rfl ?_);repeat (first | refine zF ?_ | refine zG ?_ | refine wR ?_)
  refine qG _ (gN h v g hcf) rfl rfl ?_;repeat (first | refine zF ?_ | refine zG ?_ | refine wR ?_)
  refine zV _ (qX _) rfl ?_;repeat (first | refine zF ?_ | refine zG ?_ | refine wR ?_)
  refine zC (zA (zM (zL ?_)));have hn : R = (raS 36 (qB ++ (yG h (clA h v)).name ++ nwaB),h) := by
   rw [hR];unfold delS chS;rw [if_pos c1w]
  subst hn;exact kU
 ·have c1w : wokS h v = true := by simpa using c1
  have wr := gG0 g c1w;have hwr := wr.inr;have hwe := wr.eo;have hwn := wr.nl;have hwi := wr.il;have hwq := wr.ni;have hwt := wr.st;refine zK (zA ?_);refine zB (zW zN [] mK1 400 yQ (by kernel_rfl) rfl ?_);refine zH ?_;refine qG _ (qP h v hvr) rfl rfl ?_;refine zH ?_;refine zC (zA ?_);refine yO [0,2,4,6,7] [0,1,2,3,205] 410 [] [(205,.box 36 (obD (zR h v)))] ?_;refine ⟨⟨yI,⟨⟨rfl,SubL.same rfl⟩,yF⟩,rfl,rfl⟩,?_⟩;refine vN (ι := {_u : Unit // R = chF h v s cndB (delF h v s)}) [0,2,4,6,7] [0,1,2,3,205] 1600 (fun _ => []) (fun _ => []) ?_;refine ⟨?_,fun j => ?_⟩
  ·refine zJ 500 ?_;refine zS rfl (fun c4 => ?_) (fun c4 => ?_)
   ·have c4w : (zR h v).kind = 10 := by simpa using c4
    have hcin := uZ g c4w;have hfr : (chV h v s).k = 6 → qC h (chV h v s).r = true := fun hk9 => gS0 hh g hcin s hk9;have hfind := gW (md := true) h (zR h v).cls s hh hcin (kW hh g hcin);refine zB (zW zN [] mK12 600 yQ (by kernel_rfl) rfl ?_);refine zH ?_;refine qG _ (hfind) rfl rfl ?_;refine zH ?_;refine zC (zA (zB ?_));refine zB (zW zN [] mK1 700 yQ (by kernel_rfl) rfl ?_);refine zH ?_;refine qG _ (qP h (chV h v s) hfr) rfl rfl ?_;refine zH ?_;refine zC (zA ?_);refine yO [0,2,4,6,7,8,10,11] [0,1,2,3,205,511,605] 710 [] [(605,.box 36 (obD (zR h (chV h v s))))] ?_;refine ⟨⟨yI,⟨⟨rfl,SubL.same rfl⟩,yF⟩,rfl,rfl⟩,?_⟩;refine zJ 800 ?_;refine zS rfl (fun c7 => ?_) (fun c7 => ?_)
    ·have c7w : (chO h v s).isSome = true ∧ (zR h (chV h v s)).kind = 12 := by
      have h7 : ((chO h v s).isSome && decide ((zR h (chV h v s)).kind = 12)) = true := c7
      rwa [Bool.and_eq_true,decide_eq_true_eq] at h7
     have hp3 := kF g c7w.2;refine zB ?_;refine zB (zE zN [] 900 rfl ?_);repeat (first | refine zF ?_ | refine zG ?_ | refine gL0 ?_)
     refine zC (zA (zS rfl (fun c8 => ?_) (fun c8 => ?_)))
     ·have c8w : ((zR h (chV h v s)).items.getD 2 vl0).k = 0 := by simpa using c8
      refine zB (zE zN [] 1000 rfl ?_);repeat (first | refine zF ?_ | refine zG ?_ | refine wR ?_)
      refine zV _ (qX _) rfl ?_;repeat (first | refine zF ?_ | refine zG ?_ | refine wR ?_)
      refine zC (zA (zM (zL (zL ?_))));refine uF ?_;have hn : R = (raS 36 (atB ++ s ++ cndB),h) := by
       rw [hR];unfold delS chS;rw [if_neg (by rw [c1w];decide),if_pos ⟨c4w,c7w.1,c7w.2,c8w⟩]
      subst hn;exact kU
     ·have c8w : ¬ ((zR h (chV h v s)).items.getD 2 vl0).k = 0 := by simpa using c8
      refine zK (zA ?_);refine zB (zW zN [] [[],[0],[0,1],[0,1,2],[],[4],(rgN 6),(rgN 7)] 1100 yQ (by kernel_rfl) rfl ?_);repeat (first | refine zF ?_ | refine zG ?_ | refine gL0 ?_)
      refine zV _ ((bR _ [v]).args ⟨SubP.refl _,SubP.slrSl (m := false) rfl,trivial⟩) rfl ?_;repeat (first | refine zF ?_ | refine zG ?_ | refine gL0 ?_)
      refine zC (zA (zM (zL ?_)));refine uF ?_;have hn : R = (caS ((zR h (chV h v s)).items.getD 2 vl0) [v],h) := by
       rw [hR];unfold delS chS;rw [if_neg (by rw [c1w];decide),if_neg (fun hh9 => c8w hh9.2.2.2),if_pos ⟨c4w,c7w⟩]
      subst hn;exact kU
    ·have c7w : ¬ ((chO h v s).isSome = true ∧ (zR h (chV h v s)).kind = 12) := by
      rintro ⟨h8,h9⟩;have h7 : ((chO h v s).isSome && decide ((zR h (chV h v s)).kind = 12)) = false := c7;rw [h8,decide_eq_true h9] at h7
      cases h7
     refine zK (zA ?_);refine zB (zW zN [] [[],[0],[0,1],[],[],[4],(rgN 6),(rgN 7),(rgN 8),(rgN 8),[],[0,1,2,3,4,5,6,7,8,10],(rgN 12)] 1200 yQ (by kernel_rfl) rfl ?_);refine zH ?_;refine qG _ ((pL h (chV h v s) onEr [v] hh g hfr (by show 1 ≤ 1000000;decide)).args ⟨SubP.refl _,SubP.refl _,SubP.refl _,SubP.slrSl (m := false) rfl,trivial⟩) rfl rfl ?_;refine zH ?_;refine zC (zA (zJ 1300 ?_));refine zS rfl (fun c12 => ?_) (fun c12 => ?_)
     ·have c12w : (chO h v s).isSome = true ∧ (spS h (chV h v s) onEr).2.2 = true := by
       have h7 : ((chO h v s).isSome && (spS h (chV h v s) onEr).2.2) = true := c12
       rwa [Bool.and_eq_true] at h7
      refine zJ 1400 ?_;refine zM ?_;refine uF ?_;have hn : R = (caS (spS h (chV h v s) onEr).1 ((spS h (chV h v s) onEr).2.1 ++ [v]),h) := by
       rw [hR];unfold delS chS;rw [if_neg (by rw [c1w];decide),if_neg (fun hh9 => c7w ⟨hh9.2.1,hh9.2.2.1⟩),if_neg (fun hh9 => c7w ⟨hh9.2.1,hh9.2.2⟩),if_pos ⟨c4w,c12w⟩]
      subst hn;exact kU
     ·have c12w : ¬ ((chO h v s).isSome = true ∧ (spS h (chV h v s) onEr).2.2 = true) := by
       rintro ⟨h8,h9⟩;have h7 : ((chO h v s).isSome && (spS h (chV h v s) onEr).2.2) = false := c12;rw [h8,h9] at h7
       cases h7
      refine zK ?_;have hj : R = chF h v s cndB (delF h v s) := by
       rw [hR];unfold delS chS;rw [if_neg (by rw [c1w];decide),if_neg (fun hh9 => c7w ⟨hh9.2.1,hh9.2.2.1⟩),if_neg (fun hh9 => c7w ⟨hh9.2.1,hh9.2.2⟩),if_neg (fun hh9 => c12w ⟨hh9.2.1,hh9.2.2⟩)]
      exact yY ⟨(),hj⟩ ⟨yI,yF,rfl,rfl⟩
   ·have c4w : ¬ (zR h v).kind = 10 := by simpa using c4
    refine zK ?_;have hj : R = chF h v s cndB (delF h v s) := by
     rw [hR];unfold delS chS;rw [if_neg (by rw [c1w];decide),if_neg (fun hh9 => c4w hh9.1),if_neg (fun hh9 => c4w hh9.1),if_neg (fun hh9 => c4w hh9.1)]
    exact yY ⟨(),hj⟩ ⟨yI,yF,rfl,rfl⟩
  have hj := j.2;refine zB ?_;refine zB (zW zN [] [[],[0],[0,1],[],[],(rgN 5)] 1700 yQ (by kernel_rfl) rfl ?_);refine zH ?_;refine qG _ (xI0 h v s g hvr) rfl rfl ?_;refine zH ?_;refine zC (zA (zS rfl (fun c14 => ?_) (fun c14 => ?_)))
  ·have c14w : fixS h v s = true := by simpa using c14
   refine zB (zE zN [] 1800 rfl ?_);repeat (first | refine zF ?_ | refine zG ?_ | refine wR ?_)
   refine zV _ (qX _) rfl ?_;repeat (first | refine zF ?_ | refine zG ?_ | refine wR ?_)
   refine zC (zA (zM (zL ?_)));have hn : R = (raS 36 (atB ++ s ++ cndB),h) := by
    rw [hj,chF,if_pos c14w]
   subst hn;exact kU
  ·have c14w : fixS h v s = false := by simpa using c14
   refine zK (zA ?_);refine zB (zE zN [] 1800 rfl ?_);refine zH ?_;refine zV _ (vH (zR h v).names s) rfl ?_;refine zH ?_;refine zC (zA (zB (zJ 1900 ?_)));refine zS rfl (fun c17 => ?_) (fun c17 => ?_)
   ·have c17w : (ixI (zR h v).names s) < 0 := by simpa using c17
    refine zB (zJ 2000 ?_);refine zQ (zJ 2100 ?_);refine zS rfl (fun c19 => ?_) (fun c19 => ?_)
    ·have c19w : (zR h v).kind = 9 := by simpa using c19
     refine zB (zE zN [] 2200 rfl ?_);repeat (first | refine zF ?_ | refine zG ?_ | refine wR ?_)
     refine zV _ (qX _) rfl ?_;repeat (first | refine zF ?_ | refine zG ?_ | refine wR ?_)
     refine zC (zA (zM (zP (zL (zL ?_)))));have hj9 : R = delF h v s := by rw [hj,chF,if_neg (by rw [c14w];decide)]
     have hn : R = (raS 36 (cqB ++ (zR h v).name ++ nhB ++ s ++ qB),h) := by rw [hj9,delF,if_pos c17w,lkS,whoS,if_pos c19w]
     subst hn;exact kU
    ·have c19w : ¬ (zR h v).kind = 9 := by simpa using c19
     refine zJ 2200 ?_;refine zS rfl (fun c21 => ?_) (fun c21 => ?_)
     ·have c21w : (zR h v).kind = 11 := by simpa using c21
      refine zB (zE zN [] 2300 rfl ?_);repeat (first | refine zF ?_ | refine zG ?_ | refine wR ?_)
      refine zV _ (qX _) rfl ?_;repeat (first | refine zF ?_ | refine zG ?_ | refine wR ?_)
      refine zC (zA (zM (zP (zL (zL ?_)))));have hj9 : R = delF h v s := by rw [hj,chF,if_neg (by rw [c14w];decide)]
      have hn : R = (raS 36 (mqB ++ (zR h v).name ++ nhB ++ s ++ qB),h) := by rw [hj9,delF,if_pos c17w,lkS,whoS,if_neg c19w,if_pos c21w]
      subst hn;exact kU
     ·have c21w : ¬ (zR h v).kind = 11 := by simpa using c21
      refine zK (zO (zA ?_));refine zB (zW zN [] [[],[0],[0,1],[],[],(rgN 5),(rgN 6)] 2400 yQ (by kernel_rfl) rfl ?_);refine zH ?_;refine qG _ (atLacks_ok h v s g hcf (by omega) c19w c21w) rfl rfl ?_;refine zH ?_;refine zC (zA (zM (zL ?_)));have hj9 : R = delF h v s := by rw [hj,chF,if_neg (by rw [c14w];decide)]
      have hn : R = (lkS h v s,h) := by rw [hj9,delF,if_pos c17w]
      subst hn;exact kU
   ·have c17w : ¬ (ixI (zR h v).names s) < 0 := by simpa using c17
    have hkl := qH0 (zR h v).names s;have hk0 : 0 ≤ (ixI (zR h v).names s) := by omega
    have hkn : (ixI (zR h v).names s).toNat < (zR h v).names.length := by omega
    have hki : (ixI (zR h v).names s).toNat < (zR h v).items.length := by omega
    refine zK (zA ?_);refine zB (zW zN [1142,1146] mK14 2500 yQ (by kernel_rfl) rfl ?_);repeat (first | refine zF ?_ | refine zG ?_ | refine dG0 ?_)
    refine yN _ _ (jT0 (zR h v).names (by omega)) rfl ?_;repeat (first | refine zF ?_ | refine zG ?_ | refine dG0 ?_)
    refine yN _ _ (DeleteS_G (zR h v).names (ixI (zR h v).names s) hk0 hkn) rfl ?_;repeat (first | refine zF ?_ | refine zG ?_ | refine dG0 ?_)
    refine zC (zA ?_);refine yO [0,4,6,7,14] [2,3,205] 2510 [] [(0,.box 24 [.mo 1 (h.set v.r.toNat { zR h v with names := (zR h v).names.eraseIdx (ixI (zR h v).names s).toNat }).length]),(1,.mrow 36 10 (.map (h.set v.r.toNat { zR h v with names := (zR h v).names.eraseIdx (ixI (zR h v).names s).toNat }) obD ob0))] ?_;refine ⟨⟨yI,⟨⟨rfl,Sub.mo (by simp),rfl,trivial⟩,SubO.mp (wV (by rw [show h.getD v.r.toNat ob0 = zR h v from hwe.symm];rfl)),yF⟩,rfl,rfl⟩,?_⟩;refine zB (zW zN [1157,1161] mK14 2600 yQ (by kernel_rfl) rfl ?_);repeat (first | refine zF ?_ | refine zG ?_ | refine tL0 ?_)
    refine yN _ _ (gF0 (zR h v).items (by omega)) rfl ?_;repeat (first | refine zF ?_ | refine zG ?_ | refine tL0 ?_)
    refine yN _ _ (DeleteV_G (zR h v).items (ixI (zR h v).names s) hk0 hki) rfl ?_;repeat (first | refine zF ?_ | refine zG ?_ | refine tL0 ?_)
    refine zC (zA ?_);refine yO [0,4,6] [2,3] 2610 [] [(0,.box 24 [.mo 1 (h.set v.r.toNat (cutO (zR h v) s)).length]),(1,.mrow 36 10 (.map (h.set v.r.toNat (cutO (zR h v) s)) obD ob0))] ?_;refine ⟨⟨yI,⟨⟨rfl,Sub.mo (by simp),rfl,trivial⟩,SubO.mp (cut_row (by rw [show (h.set v.r.toNat { zR h v with names := (zR h v).names.eraseIdx (ixI (zR h v).names s).toNat }).getD v.r.toNat ob0 = _ from kJ hwr];rfl)),yF⟩,rfl,rfl⟩,?_⟩;refine zB (zE zN [1166] 2700 rfl ?_);refine zH ?_;refine yN _ _ (jJ0 (h.set v.r.toNat (cutO (zR h v) s)) v (by rw [List.length_set];omega) (mS0 hwr) (by rw [kJ hwr];exact hwt)) rfl ?_;refine zH ?_;refine zC (zA (zJ 2800 ?_));refine zM ?_;have hj9 : R = delF h v s := by rw [hj,chF,if_neg (by rw [c14w];decide)]
    have hn : R = (vlS vl0,h.set v.r.toNat (jL (cutO (zR h v) s))) := by rw [hj9,delF,if_neg c17w]
    subst hn;exact FinH.ret 2 rfl rfl (Sub.ofP (SubP.agg (by repeat (first | exact trivial | exact SubP.refl _ | exact SubP.nilSl rfl | refine ⟨?_,?_⟩))) rfl rfl) ⟨⟨rfl,Sub.mo (by simp),rfl,trivial⟩,SubO.mp (by rw [kJ hwr,List.set_set]),trivial⟩
end Go.Proofs.YtbhndnphimmjjaaGreatDoor
