/- Part 31 of the proof. -/
import Derived.Test.YtbhndnphimmjjaaGreatDoorM30
import Derived.Test.YtbhndnphimmjjaaGreatDoorM24
namespace Go.Proofs.YtbhndnphimmjjaaGreatDoor
open Go.RowKit
variable {md me : Bool}
theorem zX1 {P : Program} {K : DS → Prop} {p : Prop} {r : Out} (hr : r.sat P K) (hp : p := by first | (simp only [ByteArray.size_append,kbs,List.size_toArray,List.length_cons,List.length_nil];omega) | first | exact trivial | omega | exact ini (by omega) (by omega) | (intro hh;simp at hh;exact ini (by omega) (by omega)) | (intro hh;simp at hh ⊢;omega) | (simp at *;omega) | (simp_all;done)) : (Out.need p r).sat P K := ⟨hp,hr⟩
theorem xR {T : List (Nat × TI)} {rs : List ResultVar} {n0 : Nat} {out d : D} {own' : List DOwn} {S : DS} (hk : Nat.ble n0 2 = true := by rfl) (h : finH T S rs = some d := by rfl) (hs : Sub d (out.ren (qD (iota n0) 2)) := by exact Sub.ofP (SubP.agg (SubPs.refl _)) rfl rfl) (ho : gW (iota n0) 2 S.ow 0 own' := by exact ⟨⟨rfl,Sub.mo rfl,rfl,trivial⟩,SubO.mp rfl,trivial⟩) : FinH T rs n0 out own' .ret S := FinH.ret 2 hk h hs ho
theorem atGetV_G (h : List Ob) (v : Vl) (s : ByteArray) (hh : HpIn h) (g : Uh h) (hv : hasS h v = true) (hiv : VlIn v) (hs : s.size ≤ 100) : FnG Tryz.prog 12 [.bp 0 0,.agg (vlD v),.v (.string s)] (hpO h) (.agg (stD (gatS h v s).1)) (hpO (gatS h v s).2) := by
 have hg5 := g.hi;obtain ⟨R,hR⟩ : ∃ R,R = gatS h v s := ⟨_,rfl⟩;rw [← hR];have hz := gZ;have hcf := wF0 g hv;have hvo := kI hv;have hci := xW g hcf;have hnz := jA0 g hci;have hnz2 : (h.getD (clA h v).toNat ob0).name.size ≤ 700 := hnz;have hoz := dC g v;refine jE zM Tryz.func12 rfl rfl rfl rfl rfl rfl rfl ?_;intro w0 s0 mx;refine zL 100 ?_;refine zB ?_;refine zB (zV zM [] mK1 200 yR (by kernel_rfl) rfl ?_);refine zF ?_;refine yO _ (yZ h v hvo) rfl rfl ?_;refine zF ?_;refine zC (zA ?_);refine yK [0,2,4,6,7] [0,1,2,3,105] 210 [] [(105,.box 36 (obD (zR h v)))] ?_;refine ⟨⟨yH,⟨⟨rfl,SubL.same rfl⟩,yG⟩,rfl,rfl⟩,?_⟩;refine zL 300 ?_;refine zQ (zL 400 ?_);refine zY (fun c3 => ?_) (fun c3 => ?_)
 ·
  refine zB (zE zM [1022] 500 rfl ?_);refine zF ?_;refine yJ _ _ (ofInstance_G h v s hh g c3 hv hiv hs) rfl ?_;refine zF ?_;refine zC (zA (zJ (zN (zK ?_))));have hn : R = wiS h v s (fdV h s (fdO h (yA h (zR h v).cls).order s)) (fdO h (yA h (zR h v).cls).order s).isSome := by
   rw [hR];unfold gatS;rw [if_pos c3]
  subst hn;exact xR
 ·
  refine zL 600 ?_;refine zY (fun c5 => ?_) (fun c5 => ?_)
  ·
   refine zB (zE zM [1029] 700 rfl ?_);refine zF ?_;refine yJ _ _ (atGet_G h v s hh g c5 hs) rfl ?_;refine zF ?_;refine zC (zA (zJ (zN (zK ?_))));have hn : R = clsS h v s := by
    rw [hR];unfold gatS;rw [if_neg c3,if_pos c5]
   subst hn;exact xR
  ·
   refine zL 800 ?_;refine zY (fun c7 => ?_) (fun c7 => ?_)
   ·
    refine zB ?_;refine zB (zE zM [] 900 rfl ?_);refine zF ?_;refine zT _ (gP (zR h v) s (wF g v)) rfl ?_;refine zF ?_;refine zC (zA (zL 1000 ?_));refine zS rfl (fun c9 => ?_) (fun c9 => ?_)
    ·have c9w : ownB (zR h v) s = true := by simpa using c9
     refine zB (zE zM [] 1100 rfl ?_);refine zF ?_;refine zT _ (qI _) rfl ?_;refine zF ?_;refine zC (zA (zJ (zK (zN (zK ?_)))));have hn : R = (vlS (ownV (zR h v) s),h) := by
      rw [hR];unfold gatS;rw [if_neg c3,if_neg c5,if_pos c7,if_pos c9w]
     subst hn;exact xR
    ·have c9w : ownB (zR h v) s = false := by simpa using c9
     refine zO (zA ?_);refine zB (zE zM [] 1200 rfl ?_);repeat (first | refine zG ?_ | refine zH ?_ | refine zX1 ?_)
     refine zT _ (uE _) rfl ?_;repeat (first | refine zG ?_ | refine zH ?_ | refine zX1 ?_)
     refine zC (zA (zJ (zN (zK ?_))));have hn : R = (raS 36 (mqB ++ (zR h v).name ++ nhB ++ s ++ qB),h) := by
      rw [hR];unfold gatS;rw [if_neg c3,if_neg c5,if_pos c7,if_neg (by rw [c9w];decide),lkS,whoS,if_neg c5,if_pos c7]
     subst hn;exact xR
   ·
    refine zL 1300 ?_;refine zY (fun c12 => ?_) (fun c12 => ?_)
    ·
     refine zB (zE zM [1054] 1400 rfl ?_);refine zF ?_;refine yJ _ _ (above_G h v s hh g c12 hs) rfl ?_;refine zF ?_;refine zC (zA (zJ (zN (zK ?_))));have hn : R = upS h (zR h v) s := by
      rw [hR];unfold gatS;rw [if_neg c3,if_neg c5,if_neg c7,if_pos c12]
     subst hn;exact xR
    ·
     refine zO (zP (zA ?_));refine zB (zE zM [1058] 1500 rfl ?_);refine zF ?_;refine yJ _ _ (builtin_G h v s hh g hv hiv hs c5 c7) rfl ?_;refine zF ?_;refine zC (zA (zJ ?_));have hn : R = biS h v s := by
      rw [hR];unfold gatS;rw [if_neg c3,if_neg c5,if_neg c7,if_neg c12]
     subst hn;exact xR
theorem zW1 {P : Program} {K : DS → Prop} {p : Prop} {r : Out} (hr : r.sat P K) (hp : p := by first | (simp only [List.length_map,List.length_take];omega) | first | exact trivial | omega | exact ini (by omega) (by omega) | (intro hh;simp at hh;exact ini (by omega) (by omega)) | (intro hh;simp at hh ⊢;omega) | (simp at *;omega) | (simp_all;done)) : (Out.need p r).sat P K := ⟨hp,hr⟩
set_option maxHeartbeats 2000000 in
theorem GetV_G (h : List Ob) (v : Vl) (s : ByteArray) (hh : HpIn h) (g : Uh h) (hv : hasS h v = true) (hiv : VlIn v) (hs : s.size ≤ 100) : FnG Tryz.prog 19 [.bp 0 0,.agg (vlD v),.v (.string s)] (hpO h) (.agg (stD (gatS h v s).1)) (hpO (gatS h v s).2) := by
 have hg5 := g.hi;obtain ⟨R,hR⟩ : ∃ R,R = gatS h v s := ⟨_,rfl⟩;rw [← hR];have hz := gZ;have hcf := wF0 g hv;have hvo := kI hv;have hci := xW g hcf;have hnz := jA0 g hci;have hnz2 : (h.getD (clA h v).toNat ob0).name.size ≤ 700 := hnz;have hoz := dC g v;have hbi : VlIn (biV ((yA h (clA h v)).name ++ dotB ++ s)) := ⟨(by decide : (-9223372036854775808 : Int) ≤ 7),(by decide : (7 : Int) ≤ 9223372036854775807),(by decide : (-9223372036854775808 : Int) ≤ 0),(by decide : (0 : Int) ≤ 9223372036854775807),(fun _ h => by cases h),(fun _ h => by cases h),(by decide : 0 ≤ 2000000),(by decide : 0 ≤ 2000000),by show ((yA h (clA h v)).name ++ dotB ++ s).size ≤ 2000000;rw [ByteArray.size_append,ByteArray.size_append];omega⟩;have hcls : (zR h v).kind = 9 → inH h v.r ∧ zR h v = yA h v.r ∧ Cok h (zR h v).order ∧ ((fdV h s (fdO h (zR h v).order s)).k = 6 → yW h (fdV h s (fdO h (zR h v).order s)).r = true) ∧ VlIn (fdV h s (fdO h (zR h v).order s)) ∧ ∀ u ∈ (zR h v).order.map rfV,VlIn u := fun hk => by
  obtain ⟨h6,hob,eo⟩ := jH (h := h) (v := v) (by omega);have hin := yQ hob;have hck := vP hh g hin;rw [← eo] at hck;refine ⟨hin,eo,hck,fun hk9 => by rw [eo] at hk9 ⊢;exact kO0 hh g hin s hk9,(tY g hh (L := (zR h v).order) (fun r hr => (hck.2 r hr).1) s).1.vin,fun u hu => ?_⟩;obtain ⟨r,hr,rfl⟩ := List.mem_map.1 hu;exact (vP0 (hck.2 r hr).1 (by omega)).1.vin
 refine jE zM Tryz.func19 rfl rfl rfl rfl rfl rfl rfl ?_;intro w0 s0 mx;refine zL 100 ?_;refine zB (zV zM [] mK1 200 yR (by kernel_rfl) rfl ?_);refine zF ?_;refine yO _ (qM h v) rfl rfl ?_;refine zF ?_;refine zC (zA (zB ?_));refine yK [0,2,4,6,7] [0,1,2,3,105] 210 [] [(105,.box 36 (obD (zR h v)))] ?_;refine ⟨⟨yH,⟨⟨rfl,SubL.same rfl⟩,yG⟩,rfl,rfl⟩,?_⟩;refine zL 300 ?_;refine zQ (zL 400 ?_);refine zS rfl (fun c3 => ?_) (fun c3 => ?_)
 ·replace c3 : (zR h v).kind = 10 := by simpa using c3
  have c3v : (zR h v).kind = 10 := c3;obtain ⟨h6,hob,eo⟩ := jH (h := h) (v := v) (by omega);have hcin := uJ g c3v;have hfr := fun hk9 => kO0 hh g hcin s hk9;have hfi := (tY g hh (L := (yA h (zR h v).cls).order) (fun r hr => ((vP hh g hcin).2 r hr).1) s).1.vin;refine zB (zV zM [] mK25 500 yR (by kernel_rfl) rfl ?_);refine zF ?_;refine yO _ (gC h (zR h v).cls s hh hcin (vP hh g hcin)) rfl rfl ?_;refine zF ?_;refine zC (zA ?_);refine zB (zE zM [1045] 600 rfl ?_);refine zF ?_;refine yJ _ _ (Gotten_G h v (fdV h s (fdO h (yA h (zR h v).cls).order s)) s (fdO h (yA h (zR h v).cls).order s).isSome hh g c3 hv hfr hfi hiv hs) rfl ?_;refine zF ?_;refine zC (zA (zJ (zN (zK ?_))));have hn : R = wiS h v s (fdV h s (fdO h (yA h (zR h v).cls).order s)) (fdO h (yA h (zR h v).cls).order s).isSome := by
   rw [hR];unfold gatS;rw [if_pos c3]
  subst hn;exact xR
 ·replace c3 : ¬ (zR h v).kind = 10 := by simpa using c3
  refine zL 700 ?_;refine zS rfl (fun c6 => ?_) (fun c6 => ?_)
  ·replace c6 : (zR h v).kind = 9 := by simpa using c6
   obtain ⟨hin,eo,hck,hfr,hfi,hrf⟩ := hcls c6;have hol := hck.1;have hfind := gC (md := true) h v.r s hh hin (vP hh g hin);rw [← eo] at hfind;refine zB (zL 800 ?_);refine zQ (zL 900 ?_);refine zS rfl (fun c8 => ?_) (fun c8 => ?_)
   ·have c8w : s = mF := of_decide_eq_true c8;refine zB (zE zM [] 1000 rfl ?_);refine zF ?_;refine zT _ (T_ok _) rfl ?_;refine zF ?_;refine zT _ (qY _) rfl ?_;refine zF ?_;refine zC (zA (zJ (zN (zK (zN (zK ?_))))));have hn : R = (vlS (txV (zR h v).name),h) := by
     rw [hR];unfold gatS;rw [if_neg c3,if_pos c6,clsS,if_pos c8w]
    subst hn;exact xR
   ·have c8w : ¬ s = mF := of_decide_eq_false c8;refine zL 1100 ?_;refine zS rfl (fun c10 => ?_) (fun c10 => ?_)
    ·have c10w : s = ordB := of_decide_eq_true c10;refine zL 1200 ?_;refine qA 10 29 7 rfl ?_;refine zB (zL 1300 ?_);refine zQ ?_;refine yC (ι := {k : Nat // k ≤ (zR h v).order.length}) [0,6,58,59] [0,1,2,3] 1350 (fun x => [(60,.v (.int .i64 x.1)),(10,.own 1200 7 ((((zR h v).order.take x.1).map rfV).map vlD))]) (fun x => [(1200,.row 29 7 ((((zR h v).order.take x.1).map rfV).map vlD).length)]) (fun x => (zR h v).order.length - x.1) ⟨0,Nat.zero_le _⟩ ?_;refine ⟨⟨⟨Sub.int rfl,Sub.own rfl,yH⟩,⟨⟨rfl,rfl,rfl⟩,yG⟩,rfl,rfl⟩,fun x => ?_⟩;have hk1 : x.1 ≤ (zR h v).order.length := x.2;refine zL 1400 ?_;refine zB (zS rfl (fun c13 => ?_) (fun c13 => ?_))
     ·have hlt : x.1 < (zR h v).order.length := by simpa using c13
      refine zO (zA (zB (zQ (zL 1500 ?_))));refine zE zM [] 1600 rfl ?_;repeat (first | refine zG ?_ | refine zH ?_ | refine zW1 ?_)
      refine zT _ (O_ok _) rfl ?_;repeat (first | refine zG ?_ | refine zH ?_ | refine zW1 ?_)
      refine zC (zP (zA (yT zM [] 1700 ?_)));exact zW ⟨x.1 + 1,by omega⟩ ⟨⟨Sub.int (by push_cast;rfl),Sub.own (by rw [qJ hlt 0,List.map_append,List.map_append];rfl),yH⟩,⟨⟨rfl,rfl,by rw [qJ hlt 0];simp⟩,yG⟩,rfl,rfl⟩ (by show (zR h v).order.length - (x.1 + 1) < (zR h v).order.length - x.1;omega)
     ·have hke : x.1 = (zR h v).order.length := by
       have h9 : ¬ x.1 < (zR h v).order.length := by simpa using c13
       omega
      refine yF (zZ (yB (zX (zA ?_))));refine zB (zE zM [1073] 1800 rfl ?_);refine zF ?_;refine yJ _ _ ((uR0 h (tuO ((zR h v).order.map rfV)) (by omega)).args ⟨Sub.refl _,Sub.ofP (SubP.agg ⟨SubP.refl _,SubP.refl _,SubP.refl _,SubP.nilSl rfl,SubP.nilSl rfl,SubP.nilSl rfl,SubP.slrSl (by rw [hke,List.take_length];rfl),SubP.nilSl rfl,SubP.refl _,SubP.refl _,trivial⟩) rfl rfl,trivial⟩) rfl ?_;refine zF ?_;refine zT _ (qY _) rfl ?_;refine zF ?_;refine zC (zA (zJ (zN (zK (zN (zK ?_))))));have hn : R = newS h (tuO ((zR h v).order.map rfV)) := by
       rw [hR];unfold gatS;rw [if_neg c3,if_pos c6,clsS,if_neg c8w,if_pos c10w]
      subst hn;exact xR
    ·have c10w : ¬ s = ordB := of_decide_eq_false c10;refine zO (zP (zA (zB ?_)));refine zB (zV zM [] mK25 1900 yR (by kernel_rfl) rfl ?_);refine zF ?_;refine yO _ (hfind) rfl rfl ?_;refine zF ?_;refine zC (zA (zL 2000 ?_));refine zS rfl (fun c19 => ?_) (fun c19 => ?_)
     ·have c19w : (fdO h (zR h v).order s).isSome = true := by simpa using c19
      refine zB (zE zM [1091] 2100 rfl ?_);refine zF ?_;refine yJ _ _ ((dT0 h (fdV h s (fdO h (zR h v).order s)) vl0 v.r hh g hfr hfi kV0 hin).args ⟨Sub.refl _,Sub.refl _,Sub.ofP (SubP.agg (by repeat (first | exact trivial | exact SubP.refl _ | exact SubP.nilSl rfl | refine ⟨?_,?_⟩))) rfl rfl,Sub.refl _,Sub.refl _,trivial⟩) rfl ?_;refine zF ?_;refine zC (zA (zJ (zK (zN (zK ?_)))));have hn : R = bdS h (fdV h s (fdO h (zR h v).order s)) vl0 v.r false := by
       rw [hR];unfold gatS;rw [if_neg c3,if_pos c6,clsS,if_neg c8w,if_neg c10w,if_pos c19w]
      subst hn;exact xR
     ·have c19w : (fdO h (zR h v).order s).isSome = false := by simpa using c19
      refine zO (zA ?_);refine zB (zV zM [] mK2 2200 yR (by kernel_rfl) rfl ?_);refine zF ?_;refine yO _ (dX h v s g hcf (by omega)) rfl rfl ?_;refine zF ?_;refine zC (zA (zJ (zN (zK ?_))));have hn : R = (lkS h v s,h) := by
       rw [hR];unfold gatS;rw [if_neg c3,if_pos c6,clsS,if_neg c8w,if_neg c10w,if_neg (by rw [c19w];decide)]
      subst hn;exact xR
  ·replace c6 : ¬ (zR h v).kind = 9 := by simpa using c6
   refine zL 2300 ?_;refine zS rfl (fun c22 => ?_) (fun c22 => ?_)
   ·replace c22 : (zR h v).kind = 11 := by simpa using c22
    refine zB ?_;refine zB (zE zM [] 2400 rfl ?_);refine zF ?_;refine zT _ (gZ0 (zR h v) s (wF g v) (kD hh v).nl) rfl ?_;refine zF ?_;refine zC (zA (zL 2500 ?_));refine zS rfl (fun c24 => ?_) (fun c24 => ?_)
    ·have c24w : ownB (zR h v) s = true := by simpa using c24
     refine zB (zE zM [] 2600 rfl ?_);refine zF ?_;refine zT _ (qY _) rfl ?_;refine zF ?_;refine zC (zA (zJ (zK (zN (zK ?_)))));have hn : R = (vlS (ownV (zR h v) s),h) := by
      rw [hR];unfold gatS;rw [if_neg c3,if_neg c6,if_pos c22,if_pos c24w]
     subst hn;exact xR
    ·have c24w : ownB (zR h v) s = false := by simpa using c24
     refine zO (zA ?_);refine zB (zV zM [] mK2 2700 yR (by kernel_rfl) rfl ?_);refine zF ?_;refine yO _ (dX h v s g hcf (by omega)) rfl rfl ?_;refine zF ?_;refine zC (zA (zJ (zN (zK ?_))));have hn : R = (lkS h v s,h) := by
      rw [hR];unfold gatS;rw [if_neg c3,if_neg c6,if_pos c22,if_neg (by rw [c24w];decide)]
     subst hn;exact xR
   ·replace c22 : ¬ (zR h v).kind = 11 := by simpa using c22
    refine zL 2800 ?_;refine zS rfl (fun c27 => ?_) (fun c27 => ?_)
    ·replace c27 : (zR h v).kind = 15 := by simpa using c27
     refine zB (zE zM [1120] 2900 rfl ?_);refine zF ?_;refine yJ _ _ (upward_G h v s hh g c27 hs) rfl ?_;refine zF ?_;refine zC (zA (zJ (zN (zK ?_))));have hn : R = upS h (zR h v) s := by
      rw [hR];unfold gatS;rw [if_neg c3,if_neg c6,if_neg c22,if_pos c27]
     subst hn;exact xR
    ·replace c27 : ¬ (zR h v).kind = 15 := by simpa using c27
     refine zO (zP (zA (zB ?_)));refine zB (zV zM [] [[],[0],[0,1],[],[0,1,2,3],(rgN 5),(rgN 6),(rgN 6),(rgN 7),(rgN 9)] 3000 yR (by kernel_rfl) rfl ?_);refine zF ?_;refine yO _ (named_ok h v g) rfl rfl ?_;refine zF ?_;refine zC (zA (zL 3100 ?_));refine zS rfl (fun c30 => ?_) (fun c30 => ?_)
     ·have c30w : (jN h v).2 = true ∧ s = mF := by
       have h9 : (jN h v).2 = true ∧ s = ⟨#[110,97,109,101]⟩ := by simpa using c30
       exact h9
      refine zB (zE zM [] 3200 rfl ?_);refine zF ?_;refine zT _ (T_ok _) rfl ?_;refine zF ?_;refine zT _ (qY _) rfl ?_;refine zF ?_;refine zC (zA (zJ (zK ?_)));have hn : R = (vlS (txV (jN h v).1),h) := by
       rw [hR];unfold gatS;rw [if_neg c3,if_neg c6,if_neg c22,if_neg c27,biS,if_pos ⟨c30w.2,c30w.1⟩]
      subst hn;exact xR
     ·have c30w : ¬ ((jN h v).2 = true ∧ s = mF) := by
       have h9 : ¬ ((jN h v).2 = true ∧ s = ⟨#[110,97,109,101]⟩) := by simpa using c30
       exact h9
      refine zO (zA ?_);refine zB (zV zM [] mK4 3300 yR (by kernel_rfl) rfl ?_);refine zF ?_;refine yO _ (zH0 h v hcf) rfl rfl ?_;refine zF ?_;refine zC (zA (zB ?_));refine zB (zE zM [] 3400 rfl ?_);refine zF ?_;refine zT _ (MethodsOf_ok _) rfl ?_;refine zF ?_;refine zT _ (vZ (mtL (clA h v)) s) rfl ?_;refine zF ?_;refine zC (zA (zS rfl (fun c33 => ?_) (fun c33 => ?_)))
      ·have c33w : hasB (mtL (clA h v)) s = true := by simpa using c33
       refine zB (zE zM [] 3500 rfl ?_);repeat (first | refine zG ?_ | refine zH ?_ | refine zU (by first | exact ⟨hci.1,hci.2⟩ | exact ⟨rfl,hci.2⟩ | exact ⟨by simp [MR.len],by simpa [MR.len] using hci.2⟩ | rfl | (simp only [MR.len];done) | (simp only [ByteArray.size_append,kbs,List.size_toArray,List.length_cons,List.length_nil];omega) | first | exact trivial | omega | exact ini (by omega) (by omega) | (intro hh;simp at hh;exact ini (by omega) (by omega)) | (intro hh;simp at hh ⊢;omega) | (simp at *;omega) | (simp_all;done)) ?_)
       refine zC (zA ?_);refine yK [0,4,6,20] [0,1,2,3,3412] 3510 [] [(3412,.box 29 (vlD (biV ((yA h (clA h v)).name ++ dotB ++ s))))] ?_;refine ⟨⟨yH,⟨⟨rfl,by repeat (first | exact trivial | exact Sub.refl _ | exact Sub.nilSl | exact rfl | refine ⟨?_,?_⟩)⟩,yG⟩,rfl,rfl⟩,?_⟩;refine zB (zE zM [1163] 3600 rfl ?_);refine zF ?_;refine yJ _ _ ((uR0 h (mtO (biV ((yA h (clA h v)).name ++ dotB ++ s)) v) (by omega)).args ⟨Sub.refl _,Sub.ofP (SubP.agg ⟨SubP.refl _,SubP.refl _,SubP.refl _,SubP.nilSl rfl,SubP.nilSl rfl,SubP.nilSl rfl,SubP.slrSl rfl,SubP.nilSl rfl,SubP.refl _,SubP.refl _,trivial⟩) rfl rfl,trivial⟩) rfl ?_;refine zF ?_;refine zT _ (qY _) rfl ?_;refine zF ?_;refine zC (zA (zJ (zK ?_)));have hn : R = newS h (mtO (biV ((yA h (clA h v)).name ++ dotB ++ s)) v) := by
        rw [hR];unfold gatS;rw [if_neg c3,if_neg c6,if_neg c22,if_neg c27,biS,if_neg (fun hh9 => c30w ⟨hh9.2,hh9.1⟩),if_pos c33w]
       subst hn;exact xR
      ·have c33w : hasB (mtL (clA h v)) s = false := by simpa using c33
       refine zO (zA ?_);refine zB (zV zM [] mK2 3700 yR (by kernel_rfl) rfl ?_);refine zF ?_;refine yO _ (dX h v s g hcf (by omega)) rfl rfl ?_;refine zF ?_;refine zC (zA (zJ ?_));have hn : R = (lkS h v s,h) := by
        rw [hR];unfold gatS;rw [if_neg c3,if_neg c6,if_neg c22,if_neg c27,biS,if_neg (fun hh9 => c30w ⟨hh9.2,hh9.1⟩),if_neg (by rw [c33w];decide)]
       subst hn;exact xR
set_option maxHeartbeats 2000000 in
theorem Law32_ok (h : List Ob) (v : Vl) (s : ByteArray) (hh : HpIn h) (hiv : VlIn v) : Fn Tryz.prog 5 [hpD md h,.agg (vlD v),.v (.string s)] (.v (.bool true)) := by
 have hhl := hh.len;refine yL zM Tryz.func5 rfl rfl rfl rfl rfl rfl ?_;intro w0 s0 mx;refine zL 100 ?_;refine zB ?_;refine zB (zE zM [] 200 rfl ?_);refine zF ?_;refine zT _ ((Usable_ok h [v] hh (fun u hu => by rw [List.mem_singleton.1 hu];exact hiv) (by show 1 ≤ 2000000;decide)).args ⟨SubP.refl _,SubP.slrSl rfl,trivial⟩) rfl ?_;refine zF ?_;refine yS _ (fun hg7 => NameText_ok _) rfl ?_;refine zF ?_;refine zC (zA (zS rfl (fun c1 => ?_) (fun c1 => ?_)))
 ·
  refine zL 300 ?_;refine zJ (zK ?_);exact FinV.ret rfl (SubP.refl _)
 ·have hu : pB h [v] = true ∧ uR s = true := by simpa using c1
  have hq : (qR h).1 = 0 ∧ hasS h v = true := by
   have hu1 := hu.1;simp only [pB,Bool.and_eq_true,decide_eq_true_eq,List.all_cons,List.all_nil] at hu1;exact ⟨hu1.1,hu1.2.1⟩
  have g : Uh h := cP0 hq.1;have hv := hq.2;have hs : s.size ≤ 100 := by have := kE hu.2;omega
  have he := eg_gat g hh hq.1 (gv_gc (has_gv hiv hv)) hv hs;have cE := atGetV_G h v s hh g hv hiv hs;have cD := GetV_G h v s hh g hv hiv hs;obtain ⟨H,hH⟩ : ∃ H,H = (gatS h v s).2 := ⟨_,rfl⟩;obtain ⟨R,hR⟩ : ∃ R,R = (gatS h v s).1 := ⟨_,rfl⟩;rw [← hH,← hR] at cE cD he;clear hH hR;refine zO (zA ?_);refine zB (zV zM [1022,1024] [[],[0],[],[0,1,2],[],[],(rgN 6),(rgN 7)] 400 yR (by kernel_rfl) rfl ?_);refine zF ?_;refine yJ _ _ (cO0 h hh) rfl ?_;refine zF ?_;refine yJ _ _ (cO0 h hh) rfl ?_;refine zF ?_;refine zC (zA ?_);refine yK [2,3,4,7,8] [0,1,204,205] 410 [] [(201,.mrow 36 10 (.map h obD ob0)),(203,.mrow 36 10 (.map h obD ob0)),(204,.box 24 [.mo 201 h.length]),(205,.box 24 [.mo 203 h.length])] ?_;refine ⟨⟨yH,⟨SubO.mp rfl,SubO.mp rfl,⟨rfl,SubL.same rfl⟩,⟨rfl,SubL.same rfl⟩,yG⟩,rfl,rfl⟩,?_⟩;refine zB (zV zM [1027,1030] mK9 500 yR (by kernel_rfl) rfl ?_);refine zF ?_;refine yJ _ _ (cE) (cF0 _ _) ?_;refine zF ?_;refine yJ _ _ (cD) (cF0 _ _) ?_;refine zF ?_;refine zC (zA ?_);refine yK [3,7,8,9,10] [0] 510 [] [(201,.mrow 36 10 (.map H obD ob0)),(203,.mrow 36 10 (.map H obD ob0)),(204,.box 24 [.mo 201 H.length]),(205,.box 24 [.mo 203 H.length]),(416,.box 43 (stD R)),(417,.box 43 (stD R))] ?_;refine ⟨⟨yH,⟨SubO.mp rfl,SubO.mp rfl,⟨rfl,Sub.mo rfl,rfl,trivial⟩,⟨rfl,Sub.mo rfl,rfl,trivial⟩,⟨rfl,SubL.same rfl⟩,⟨rfl,SubL.same rfl⟩,yG⟩,rfl,rfl⟩,?_⟩;refine vO 201 rfl (by repeat (first | exact trivial | exact rfl | exact (fun _ => rfl) | exact (fun h => absurd h (by decide)) | refine ⟨?_,?_⟩)) (by repeat (first | exact trivial | exact rfl | exact (fun _ => rfl) | exact (fun h => absurd h (by decide)) | refine ⟨?_,?_⟩)) ?_;refine vO 203 rfl (by repeat (first | exact trivial | exact rfl | exact (fun _ => rfl) | exact (fun h => absurd h (by decide)) | refine ⟨?_,?_⟩)) (by repeat (first | exact trivial | exact rfl | exact (fun _ => rfl) | exact (fun h => absurd h (by decide)) | refine ⟨?_,?_⟩)) ?_;refine yK [3,7,8,9,10] [0] 520 [] [(204,.box 24 [.sl false 10 (H) obD ob0]),(205,.box 24 [.sl false 10 (H) obD ob0]),(416,.box 43 (stD R)),(417,.box 43 (stD R))] ?_;refine ⟨⟨yH,⟨⟨rfl,Sub.ownSl rfl,rfl,trivial⟩,⟨rfl,Sub.ownSl rfl,rfl,trivial⟩,⟨rfl,SubL.same rfl⟩,⟨rfl,SubL.same rfl⟩,yG⟩,rfl,rfl⟩,?_⟩;refine zB (zE zM [] 600 rfl ?_);refine zF ?_;refine zT _ (SameStepEffect_ok h H R H R hhl he.st he.st he.sk he.sk) rfl ?_;refine zF ?_;refine zC (zA (zJ ?_));exact FinV.ret rfl (SubP.bool (sameE_self he.len))
end Go.Proofs.YtbhndnphimmjjaaGreatDoor
