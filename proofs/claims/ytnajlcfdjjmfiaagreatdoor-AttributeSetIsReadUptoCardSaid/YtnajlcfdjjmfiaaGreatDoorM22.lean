/- Part 22 of the proof. -/
import Derived.Test.YtnajlcfdjjmfiaaGreatDoorM21
import Derived.Test.YtnajlcfdjjmfiaaGreatDoorM20
import Derived.Deep.RegionLaw
import Derived.Shelf.RegionOpenPlain
namespace Go.Proofs.YtnajlcfdjjmfiaaGreatDoor
open Go.RowKit
variable {md me : Bool}
theorem dX0 {P : Program} {K : DS → Prop} {p : Prop} {r : Out} (hr : r.sat P K) (hp : p := by first | exact ⟨by decide,(meth_item g c7w.1).1⟩ | exact ⟨rfl,(meth_item g c7w.1).1⟩ | first | exact trivial | omega | exact ini (by omega) (by omega) | (intro hh;simp at hh;exact ini (by omega) (by omega)) | (intro hh;simp at hh ⊢;omega) | (simp at *;omega) | (simp_all;done)) : (Out.need p r).sat P K := ⟨hp,hr⟩
theorem dW0 {P : Program} {K : DS → Prop} {p : Prop} {r : Out} (hr : r.sat P K) (hp : p := by first | exact ⟨by decide,(meth_item g c9).1⟩ | exact ⟨rfl,(meth_item g c9).1⟩ | exact ⟨hii.1,hii.2⟩ | exact ⟨rfl,hii.2⟩ | exact ⟨by simp [MR.len],by simpa [MR.len] using hii.2⟩ | rfl | (simp only [MR.len];done) | first | exact trivial | omega | exact ini (by omega) (by omega) | (intro hh;simp at hh;exact ini (by omega) (by omega)) | (intro hh;simp at hh ⊢;omega) | (simp at *;omega) | (simp_all;done)) : (Out.need p r).sat P K := ⟨hp,hr⟩
theorem mK0 {P : Program} {K : DS → Prop} {p : Prop} {r : Out} (hr : r.sat P K) (hp : p := by first | exact ⟨hci.1,hci.2⟩ | exact ⟨rfl,hci.2⟩ | exact ⟨by simp [MR.len],by simpa [MR.len] using hci.2⟩ | rfl | (simp only [MR.len];done) | (simp only [ByteArray.size_append,kbs,List.size_toArray,List.length_cons,List.length_nil];omega) | first | exact trivial | omega | exact ini (by omega) (by omega) | (intro hh;simp at hh;exact ini (by omega) (by omega)) | (intro hh;simp at hh ⊢;omega) | (simp at *;omega) | (simp_all;done)) : (Out.need p r).sat P K := ⟨hp,hr⟩
theorem wN {T : List (Nat × TI)} {rs : List ResultVar} {n0 : Nat} {out d : D} {own' : List DOwn} {S : DS} (hk : Nat.ble n0 2 = true := by rfl) (h : finH T S rs = some d := by rfl) (hs : Sub d (out.ren (qF (iota n0) 2)) := by exact Sub.ofP (SubP.agg (SubPs.refl _)) rfl rfl) (ho : kQ (iota n0) 2 S.ow 0 own' := by exact ⟨⟨rfl,Sub.mo rfl,rfl,trivial⟩,SubO.mp rfl,trivial⟩) : FinH T rs n0 out own' .ret S := FinH.ret 2 hk h hs ho
set_option maxHeartbeats 2000000 in
theorem builtin_G (h : List Ob) (v : Vl) (s : ByteArray) (hh : HpIn h) (g : Uh h) (hv : hasS h v = true) (hiv : VlIn v) (hs : s.size ≤ 100) (h9 : ¬ (zJ h v).kind = 9) (h11 : ¬ (zJ h v).kind = 11) : FnG Tryz.prog 31 [.bp 0 0,.agg (vlD v),.v (.string s)] (hpO h) (.agg (stD (biS h v s).1)) (hpO (biS h v s).2) := by
 have hg5 := g.hi;obtain ⟨R,hR⟩ : ∃ R,R = biS h v s := ⟨_,rfl⟩;rw [← hR];have hz := xV;have hcf := cf_of g hv;have hvo := uC hv;have hci := clA_in g hcf;have hnz := nm_sz g hci;have hnz2 : (h.getD (clA h v).toNat ob0).name.size ≤ 700 := hnz;have hoz := obj_sz g v;have hbi : VlIn (biV ((zW h (clA h v)).name ++ dotB ++ s)) := ⟨(by decide : (-9223372036854775808 : Int) ≤ 7),(by decide : (7 : Int) ≤ 9223372036854775807),(by decide : (-9223372036854775808 : Int) ≤ 0),(by decide : (0 : Int) ≤ 9223372036854775807),(fun _ h => by cases h),(fun _ h => by cases h),(by decide : 0 ≤ 2000000),(by decide : 0 ≤ 2000000),by show ((zW h (clA h v)).name ++ dotB ++ s).size ≤ 2000000;rw [ByteArray.size_append,ByteArray.size_append];omega⟩;refine jJ zP Tryz.func31 rfl rfl rfl rfl rfl rfl rfl ?_;intro w0 s0 mx;refine zN 100 ?_;refine zB (zT zP [] mK1 200 yP (by kernel_rfl) rfl ?_);refine zF ?_;refine yI _ (yJ h v hvo) rfl rfl ?_;refine zF ?_;refine zC (zA (zB ?_));refine yN [0,2,4,6,7] [0,1,2,3,105] 210 [] [(105,.box 36 (obD (zJ h v)))] ?_;refine ⟨⟨yR,⟨⟨rfl,SubL.same rfl⟩,yM⟩,rfl,rfl⟩,?_⟩;refine zN 300 ?_;refine zS rfl (fun c2 => ?_) (fun c2 => ?_)
 ·have c2w : s = wI := of_decide_eq_true c2;refine zU (zN 400 ?_);refine zZ (fun c3 => ?_) (fun c3 => ?_)
  ·
   refine zB (zE zP [] 500 rfl ?_);refine zF ?_;refine zQ _ (qN _) rfl ?_;refine zF ?_;refine zQ _ (yW _) rfl ?_;refine zF ?_;refine zC (zA (zL (zM (zK ?_))));have hnm : qX h v = (v.s,true) := by unfold qX uR;rw [if_pos c3]
   have hn : R = (vlS (txV (v.s)),h) := by
    rw [hR];unfold biS;rw [if_pos ⟨c2w,by rw [hnm]⟩,hnm]
   subst hn;exact wN
  ·
   refine zN 600 ?_;refine zZ (fun c5 => ?_) (fun c5 => ?_)
   ·
    refine zB (zE zP [] 700 rfl ?_);refine zF ?_;refine zQ _ (qN _) rfl ?_;refine zF ?_;refine zQ _ (yW _) rfl ?_;refine zF ?_;refine zC (zA (zL (zM (zK ?_))));have hnm : qX h v = ((zJ h v).name,true) := by unfold qX uR;rw [if_neg c3,if_pos c5]
    have hn : R = (vlS (txV ((zJ h v).name)),h) := by
     rw [hR];unfold biS;rw [if_pos ⟨c2w,by rw [hnm]⟩,hnm]
    subst hn;exact wN
   ·
    refine zB (zE zP [] 800 rfl ?_);repeat (first | refine zG ?_ | refine zH ?_ | refine zV (by first | exact ⟨by decide,(meth_item g (by assumption)).1⟩ | exact ⟨rfl,(meth_item g (by assumption)).1⟩ | exact fun hh9 => ⟨by decide,(meth_item g (by simpa using hh9)).1⟩ | exact fun hh9 => ⟨rfl,(meth_item g (by simpa using hh9)).1⟩ | exact fun hh9 => (meth_item g (by simpa using hh9)).1 | first | exact trivial | omega | exact ini (by omega) (by omega) | (intro hh;simp at hh;exact ini (by omega) (by omega)) | (intro hh;simp at hh ⊢;omega) | (simp at *;omega) | (simp_all;done)) ?_)
    refine zC (zA (zS rfl (fun c7 => ?_) (fun c7 => ?_)))
    ·have c7w : (zJ h v).kind = 8 ∧ ((zJ h v).items.getD 0 vl0).k = 7 := by simpa using c7
     refine zB (zE zP [] 900 rfl ?_);repeat (first | refine zG ?_ | refine zH ?_ | refine dX0 ?_)
     refine zQ _ (qN _) rfl ?_;repeat (first | refine zG ?_ | refine zH ?_ | refine dX0 ?_)
     refine zQ _ (yW _) rfl ?_;repeat (first | refine zG ?_ | refine zH ?_ | refine dX0 ?_)
     refine zC (zA (zL (zM (zK ?_))));have hn1 : kU h ((zJ h v).items.getD 0 vl0) = (((zJ h v).items.getD 0 vl0).s,true) := by unfold kU uR;rw [if_pos c7w.2]
     have hnm : qX h v = (((zJ h v).items.getD 0 vl0).s,true) := by unfold qX uR;rw [if_neg c3,if_neg c5,if_pos c7w.1,hn1]
     have hn : R = (vlS (txV (((zJ h v).items.getD 0 vl0).s)),h) := by
      rw [hR];unfold biS;rw [if_pos ⟨c2w,by rw [hnm]⟩,hnm]
     subst hn;exact wN
    ·have c7w : ¬ ((zJ h v).kind = 8 ∧ ((zJ h v).items.getD 0 vl0).k = 7) := by simpa using c7
     refine zN 1000 ?_;refine zS rfl (fun c9 => ?_) (fun c9 => ?_)
     ·replace c9 : (zJ h v).kind = 8 := by simpa using c9
      have hi7 : ¬ ((zJ h v).items.getD 0 vl0).k = 7 := fun h8 => c7w ⟨c9,h8⟩;have hif : (zJ h ((zJ h v).items.getD 0 vl0)).kind = 7 := by
       have h8 := (meth_item g c9).2;simp only [uG,Bool.or_eq_true,decide_eq_true_eq] at h8;exact h8.resolve_left hi7
      obtain ⟨hi6,hio,hie⟩ := qA (h := h) (v := ((zJ h v).items.getD 0 vl0)) (by omega);have hii := yB hio;refine zB (zT zP [] mK22 1100 yP (by kernel_rfl) rfl ?_);repeat (first | refine zG ?_ | refine zH ?_ | refine dW0 ?_)
      refine zQ _ ((qN (zJ h ((zJ h v).items.getD 0 vl0)).name).args ⟨SubP.of_eq (by rw [hie];rfl),trivial⟩) rfl ?_;repeat (first | refine zG ?_ | refine zH ?_ | refine dW0 ?_)
      refine zQ _ (yW _) rfl ?_;repeat (first | refine zG ?_ | refine zH ?_ | refine dW0 ?_)
      refine zC (zA (zL (zM (zK ?_))));have hn1 : kU h ((zJ h v).items.getD 0 vl0) = ((zJ h ((zJ h v).items.getD 0 vl0)).name,true) := by unfold kU uR;rw [if_neg hi7,if_pos hif]
      have hn2 : (zJ h ((zJ h v).items.getD 0 vl0)).name = (zW h ((zJ h v).items.getD 0 vl0).r).name := by rw [hie]
      have hnm : qX h v = ((zJ h ((zJ h v).items.getD 0 vl0)).name,true) := by unfold qX uR;rw [if_neg c3,if_neg c5,if_pos c9,hn1]
      have hn : R = (vlS (txV ((zJ h ((zJ h v).items.getD 0 vl0)).name)),h) := by
       rw [hR];unfold biS;rw [if_pos ⟨c2w,by rw [hnm]⟩,hnm]
      subst hn;exact wN
     ·replace c9 : ¬ (zJ h v).kind = 8 := by simpa using c9
      refine zO (zR (zA (zB ?_)));refine zB (zT zP [] mK3 1200 yP (by kernel_rfl) rfl ?_);refine zF ?_;refine yI _ (jR h v hcf) rfl rfl ?_;refine zF ?_;refine zC (zA ?_);refine zB (zE zP [] 1300 rfl ?_);refine zF ?_;refine zQ _ (vI _) rfl ?_;refine zF ?_;refine zQ _ (vM (mtL (clA h v)) s) rfl ?_;refine zF ?_;refine zC (zA (zS rfl (fun c12 => ?_) (fun c12 => ?_)))
      ·have c12w : hasB (mtL (clA h v)) s = true := by simpa using c12
       refine zB (zT zP [1092] mK10 1400 yP (by kernel_rfl) rfl ?_);repeat (first | refine zG ?_ | refine zH ?_ | refine mK0 ?_)
       refine yS _ _ ((jS h (biV ((zW h (clA h v)).name ++ dotB ++ s)) v (by omega) hbi hiv).args ⟨Sub.refl _,Sub.ofP (SubP.agg (by repeat (first | exact trivial | exact SubP.refl _ | exact SubP.nilSl rfl | refine ⟨?_,?_⟩))) rfl rfl,Sub.refl _,trivial⟩) rfl ?_;repeat (first | refine zG ?_ | refine zH ?_ | refine mK0 ?_)
       refine zC (zA (zL (zK ?_)));have hnn : ¬ (s = wI ∧ (qX h v).2 = true) := fun hh9 => by
        have h8 := hh9.2;rw [named_is h g v,decide_eq_false c3,decide_eq_false c5,decide_eq_false c9] at h8
        cases h8
       have hn : R = newS h (mtO (biV ((zW h (clA h v)).name ++ dotB ++ s)) v) := by
        rw [hR];unfold biS;rw [if_neg hnn,if_pos c12w]
       subst hn;exact wN
      ·have c12w : hasB (mtL (clA h v)) s = false := by simpa using c12
       refine zO (zA ?_);refine zB (zT zP [] mK2 1500 yP (by kernel_rfl) rfl ?_);refine zF ?_;refine yI _ (atLacks_ok h v s g hcf (by omega) h9 h11) rfl rfl ?_;refine zF ?_;refine zC (zA (zL ?_));have hnn : ¬ (s = wI ∧ (qX h v).2 = true) := fun hh9 => by
        have h8 := hh9.2;rw [named_is h g v,decide_eq_false c3,decide_eq_false c5,decide_eq_false c9] at h8
        cases h8
       have hn : R = (lkS h v s,h) := by
        rw [hR];unfold biS;rw [if_neg hnn,if_neg (by rw [c12w];decide)]
       subst hn;exact wN
 ·have c2w : ¬ s = wI := of_decide_eq_false c2;refine zO (zA (zB ?_));refine zB (zT zP [] mK3 1200 yP (by kernel_rfl) rfl ?_);refine zF ?_;refine yI _ (jR h v hcf) rfl rfl ?_;refine zF ?_;refine zC (zA ?_);refine zB (zE zP [] 1300 rfl ?_);refine zF ?_;refine zQ _ (vI _) rfl ?_;refine zF ?_;refine zQ _ (vM (mtL (clA h v)) s) rfl ?_;refine zF ?_;refine zC (zA (zS rfl (fun c12 => ?_) (fun c12 => ?_)))
  ·have c12w : hasB (mtL (clA h v)) s = true := by simpa using c12
   refine zB (zT zP [1092] mK10 1400 yP (by kernel_rfl) rfl ?_);repeat (first | refine zG ?_ | refine zH ?_ | refine mK0 ?_)
   refine yS _ _ ((jS h (biV ((zW h (clA h v)).name ++ dotB ++ s)) v (by omega) hbi hiv).args ⟨Sub.refl _,Sub.ofP (SubP.agg (by repeat (first | exact trivial | exact SubP.refl _ | exact SubP.nilSl rfl | refine ⟨?_,?_⟩))) rfl rfl,Sub.refl _,trivial⟩) rfl ?_;repeat (first | refine zG ?_ | refine zH ?_ | refine mK0 ?_)
   refine zC (zA (zL (zK ?_)));have hnn : ¬ (s = wI ∧ (qX h v).2 = true) := fun hh9 => c2w hh9.1;have hn : R = newS h (mtO (biV ((zW h (clA h v)).name ++ dotB ++ s)) v) := by
    rw [hR];unfold biS;rw [if_neg hnn,if_pos c12w]
   subst hn;exact wN
  ·have c12w : hasB (mtL (clA h v)) s = false := by simpa using c12
   refine zO (zA ?_);refine zB (zT zP [] mK2 1500 yP (by kernel_rfl) rfl ?_);refine zF ?_;refine yI _ (atLacks_ok h v s g hcf (by omega) h9 h11) rfl rfl ?_;refine zF ?_;refine zC (zA (zL ?_));have hnn : ¬ (s = wI ∧ (qX h v).2 = true) := fun hh9 => c2w hh9.1;have hn : R = (lkS h v s,h) := by
    rw [hR];unfold biS;rw [if_neg hnn,if_neg (by rw [c12w];decide)]
   subst hn;exact wN
variable {md me : Bool}
theorem tB0 {P : Program} {K : DS → Prop} {p : Prop} {r : Out} (hr : r.sat P K) (hp : p := by first | (simp only [ByteArray.size_append,kbs,List.size_toArray,List.length_cons,List.length_nil];omega) | first | exact trivial | omega | exact ini (by omega) (by omega) | (intro hh;simp at hh;exact ini (by omega) (by omega)) | (intro hh;simp at hh ⊢;omega) | (simp at *;omega) | (simp_all;done)) : (Out.need p r).sat P K := ⟨hp,hr⟩
theorem atGetV_G (h : List Ob) (v : Vl) (s : ByteArray) (hh : HpIn h) (g : Uh h) (hv : hasS h v = true) (hiv : VlIn v) (hs : s.size ≤ 100) : FnG Tryz.prog 10 [.bp 0 0,.agg (vlD v),.v (.string s)] (hpO h) (.agg (stD (jP h v s).1)) (hpO (jP h v s).2) := by
 have hg5 := g.hi;obtain ⟨R,hR⟩ : ∃ R,R = jP h v s := ⟨_,rfl⟩;rw [← hR];have hz := xV;have hcf := cf_of g hv;have hvo := uC hv;have hci := clA_in g hcf;have hnz := nm_sz g hci;have hnz2 : (h.getD (clA h v).toNat ob0).name.size ≤ 700 := hnz;have hoz := obj_sz g v;refine jJ zP Tryz.func10 rfl rfl rfl rfl rfl rfl rfl ?_;intro w0 s0 mx;refine zN 100 ?_;refine zB ?_;refine zB (zT zP [] mK1 200 yP (by kernel_rfl) rfl ?_);refine zF ?_;refine yI _ (yJ h v hvo) rfl rfl ?_;refine zF ?_;refine zC (zA ?_);refine yN [0,2,4,6,7] [0,1,2,3,105] 210 [] [(105,.box 36 (obD (zJ h v)))] ?_;refine ⟨⟨yR,⟨⟨rfl,SubL.same rfl⟩,yM⟩,rfl,rfl⟩,?_⟩;refine zN 300 ?_;refine zU (zN 400 ?_);refine zZ (fun c3 => ?_) (fun c3 => ?_)
 ·
  refine zB (zE zP [1022] 500 rfl ?_);refine zF ?_;refine yS _ _ (ofInstance_G h v s hh g c3 hv hiv hs) rfl ?_;refine zF ?_;refine zC (zA (zL (zM (zK ?_))));have hn : R = wiS h v s (fdV h s (fdO h (zW h (zJ h v).cls).order s)) (fdO h (zW h (zJ h v).cls).order s).isSome := by
   rw [hR];unfold jP;rw [if_pos c3]
  subst hn;exact wN
 ·
  refine zN 600 ?_;refine zZ (fun c5 => ?_) (fun c5 => ?_)
  ·
   refine zB (zE zP [1029] 700 rfl ?_);refine zF ?_;refine yS _ _ (atGet_G h v s hh g c5 hs) rfl ?_;refine zF ?_;refine zC (zA (zL (zM (zK ?_))));have hn : R = clsS h v s := by
    rw [hR];unfold jP;rw [if_neg c3,if_pos c5]
   subst hn;exact wN
  ·
   refine zN 800 ?_;refine zZ (fun c7 => ?_) (fun c7 => ?_)
   ·
    refine zB ?_;refine zB (zE zP [] 900 rfl ?_);refine zF ?_;refine zQ _ (vE (zJ h v) s (obj_names g v)) rfl ?_;refine zF ?_;refine zC (zA (zN 1000 ?_));refine zS rfl (fun c9 => ?_) (fun c9 => ?_)
    ·have c9w : jC (zJ h v) s = true := by simpa using c9
     refine zB (zE zP [] 1100 rfl ?_);refine zF ?_;refine zQ _ (yW _) rfl ?_;refine zF ?_;refine zC (zA (zL (zK (zM (zK ?_)))));have hn : R = (vlS (jF (zJ h v) s),h) := by
      rw [hR];unfold jP;rw [if_neg c3,if_neg c5,if_pos c7,if_pos c9w]
     subst hn;exact wN
    ·have c9w : jC (zJ h v) s = false := by simpa using c9
     refine zO (zA ?_);refine zB (zE zP [] 1200 rfl ?_);repeat (first | refine zG ?_ | refine zH ?_ | refine tB0 ?_)
     refine zQ _ (yX _) rfl ?_;repeat (first | refine zG ?_ | refine zH ?_ | refine tB0 ?_)
     refine zC (zA (zL (zM (zK ?_))));have hn : R = (raS 36 (mqB ++ (zJ h v).name ++ nhB ++ s ++ qB),h) := by
      rw [hR];unfold jP;rw [if_neg c3,if_neg c5,if_pos c7,if_neg (by rw [c9w];decide),lkS,whoS,if_neg c5,if_pos c7]
     subst hn;exact wN
   ·
    refine zN 1300 ?_;refine zZ (fun c12 => ?_) (fun c12 => ?_)
    ·
     refine zB (zE zP [1054] 1400 rfl ?_);refine zF ?_;refine yS _ _ (above_G h v s hh g c12 hs) rfl ?_;refine zF ?_;refine zC (zA (zL (zM (zK ?_))));have hn : R = upS h (zJ h v) s := by
      rw [hR];unfold jP;rw [if_neg c3,if_neg c5,if_neg c7,if_pos c12]
     subst hn;exact wN
    ·
     refine zO (zR (zA ?_));refine zB (zE zP [1058] 1500 rfl ?_);refine zF ?_;refine yS _ _ (builtin_G h v s hh g hv hiv hs c5 c7) rfl ?_;refine zF ?_;refine zC (zA (zL ?_));have hn : R = biS h v s := by
      rw [hR];unfold jP;rw [if_neg c3,if_neg c5,if_neg c7,if_neg c12]
     subst hn;exact wN
theorem Stp.frzD {w w' : World} {s : Sb} {g g' : Gh} {k sz : Nat} {e : TypeId} {c : Own} {rows : List (List PV)} (S : Stp w s g [(k,c)] w' s g' [(k,.mrow e sz rows)]) :
  ∃ s',(∀ v,(TV.mo k rows.length).P w' s g' v → (TV.own k sz rows).P w' s' g' v) ∧ Stp w s g [(k,c)] w' s' g' [(k,.row e sz rows.length)] := by
 have hok : Ok1 w' s g' k (.mrow e sz rows) := S.ok k _ (by rw [zY,if_pos rfl]);obtain ⟨p,hp,hrow,hmo⟩ := hok.freeze;have hpb : ∀ B o,p B o → w.heap.size ≤ B ∨ ∃ k0 c0,fnd k0 [(k,c)] = some c0 ∧ blk g k0 c0 = some B := fun B o h => S.nb k (.mrow e sz rows) B (by rw [zY,if_pos rfl]) (hp B o h).1;have hx : Ex w' s w' (s.add p) := ⟨fun _ _ h => .inl h,fun _ _ _ => rfl,fun _ _ h => .inl h⟩;refine ⟨s.add p,hmo,S.ex.trans hx,fun B o h => h.elim (S.lt B o) fun h => hok.lt (hp B o h).1,S.gle,fun j h => S.same j ?_,S.os,S.tape,S.output,S.size,S.block,fun B o h => h.elim (S.st B o) fun h => .inr (hpb B o h),fun B o h => h.elim (S.sst B o) fun h => .inr (hpb B o h),fun j d h => ?_,fun j d N h hb => ?_,fun j j' d d' N h h' hne => ?_,fun j d h => ?_⟩
 ·rw [zY] at h ⊢;by_cases e : k = j
  ·simp [e] at h
  ·simp only [e,if_false] at h ⊢;rfl
 ·obtain ⟨rfl,rfl⟩ := jI h;exact hrow
 ·obtain ⟨rfl,rfl⟩ := jI h;exact S.nb j (.mrow e sz rows) N (by rw [zY,if_pos rfl]) hb
 ·obtain ⟨rfl,rfl⟩ := jI h;obtain ⟨rfl,rfl⟩ := jI h';exact absurd rfl hne
 ·obtain ⟨rfl,rfl⟩ := jI h;exact ⟨.row e sz rows.length,by rw [zY,if_pos rfl]⟩
theorem sl_cutD {w : World} {s : Sb} {sz n cap : Nat} {a : Option Addr} {rows : List (List PV)} (h : (PV.sl false sz rows).p w s (.slice a rows.length cap)) (hn : n ≤ rows.length) : (PV.sl false sz (rows.take n)).p w s (.slice a n cap) := by
 obtain ⟨a',cap',e,h2,h3,h4,h5⟩ := h
 cases e;refine ⟨a,cap,by rw [List.length_take,Nat.min_eq_left hn],by rw [List.length_take];omega,h3,fun row hr => h4 row (List.mem_of_mem_take hr),fun i row hi => ?_⟩;rw [List.getElem?_take] at hi;by_cases hin : i < n
 ·rw [if_pos hin] at hi;exact h5 i row hi
 ·rw [if_neg hin] at hi;cases hi
theorem qQ0 {β : Type} {sz : Nat} : ∀ (rows : List (List β)) (i : Nat),(∀ r ∈ rows,r.length = sz) → (rows.take i).flatten = rows.flatten.take (i * sz)
 | [],i,_ => by simp
 | r :: rows,0,_ => by simp
 | r :: rows,i + 1,h => by
  have hr := h r (by simp);have ih := qQ0 rows i (fun x hx => h x (by simp [hx]));rw [List.take_succ_cons,List.flatten_cons,List.flatten_cons,ih,Nat.succ_mul,← hr,List.take_append,List.take_of_length_le (l := r) (by omega),show i * r.length + r.length - r.length = i * r.length by omega]
theorem qR0 {β : Type} {sz : Nat} : ∀ (rows : List (List β)) (i : Nat),(∀ r ∈ rows,r.length = sz) → (rows.drop i).flatten = rows.flatten.drop (i * sz)
 | [],i,_ => by simp
 | r :: rows,0,_ => by simp
 | r :: rows,i + 1,h => by
  have hr := h r (by simp);have ih := qR0 rows i (fun x hx => h x (by simp [hx]));rw [List.drop_succ_cons,List.flatten_cons,ih,Nat.succ_mul,← hr,List.drop_append,List.drop_of_length_le (l := r) (by omega),show i * r.length + r.length - r.length = i * r.length by omega,List.nil_append]
theorem yN0 {P : Program} {ops : Array Oper} {o : Oper} {a : Act} {w : World} {K : Act → World → Prop} {Q : Exit → Act → World → Prop} {E : Prop}
  (hg : o.guard = none) (s x : Operand) (t : TypeId) (hop : o.op = Op.call { callee := Callee.builtin Builtin.append,args := #[s,x],argTypes := #[t,t] })
  (e : TypeId) (i : TypeInfo) (size : Nat) (h1 : P.underlying t = some (.slice e)) (h2 : P.info? e = some i) (h4 : i.size = size)
  (b n cap : Nat) (hs : a.eval s = .slice (some ⟨b,0,none⟩) n cap) (cur : Array Value) (hB : CellB w b cur e)
  (ad : Addr) (m c : Nat) (news : List Value) (hx : a.eval x = .slice (some ad) m c) (hn : news.length = m * size) (hc : ∀ j u,news[j]? = some u → w.cell? (ad.add j) = some u) (h1c : ∀ u ∈ news,u.oneCell' = true)
  (hroom : n + m ≤ cap) (hfit : n * size + news.length ≤ cur.size)
  (hK : K (a.put o.dst (.slice (some ⟨b,0,none⟩) (n + m) cap)) (w.setRow b (cur.toList.take (n * size) ++ news ++ cur.toList.drop (n * size + news.length)).toArray)) :
  if Region.wanted o (yielded ops a.tmps) = true then Oper.wp P o a w K Q else E := by
 have hw : Region.wanted o (yielded ops a.tmps) = true := by simp [Region.wanted,hg]
 rw [if_pos hw];subst h4;have hrun := uH (P := P) w t o.type e i h1 h2 b n cap cur hB ad m c news hn hc h1c hroom hfit;generalize w.setRow b (cur.toList.take (n * i.size) ++ news ++ cur.toList.drop (n * i.size + news.length)).toArray = w2 at hrun hK;unfold Oper.wp;simp [execOp,hop,resolve,invoke,builtin,hs,hx,hrun,Result.andThen];exact hK
theorem tM {P : Program} (w : World) (t e ty : TypeId) (z : Value) (ht : P.underlying t = some (.slice e)) (hv : ∀ w,(zeroValue e).run P w = .ok z w) (b o c : Nat) (cur : Array Value) (hB : CellB w b cur e) (hfit : o + z.cells.size ≤ cur.size) (h1 : ∀ v ∈ z.cells.toList,v.oneCell' = true) :
  (Builtin.clear_ #[t] ty #[.slice (some ⟨b,o,none⟩) 1 c]).run P w = .ok (.tuple #[]) (w.setRow b (cur.toList.take o ++ z.cells.toList ++ cur.toList.drop (o + z.cells.size)).toArray) := by
 have hzc : (Builtin.zeroCells z.cells 1).toList = z.cells.toList := by
  simp only [Builtin.zeroCells];apply List.ext_getElem
  ·simp
  ·intro i h1 h2;simp at h1 h2;simp [Nat.mod_eq_of_lt h1];exact getElem!_pos z.cells i h1
 obtain ⟨fz,hg,hfz⟩ := hB;have hst := qL P b o e fz z.cells.toList 0 cur w hg hfz (by simpa using hfit) h1;simp only [Nat.add_zero,Array.length_toList] at hst;simp [Builtin.clear_,run_underlying ht,hv,hzc,hst]
theorem jK0 (l : List ByteArray) (hl : l.length ≤ 2000000) : FnG Tryz.prog 22 [ssD l] [] (.mo 0 l.length) [.mrow 9 1 (.map l sD ByteArray.empty)] := by
 refine jJ zP Tryz.func22 rfl rfl rfl rfl rfl rfl rfl ?_;intro w0 s0 mx;refine zB (zE zP [] 100 rfl ?_);repeat (first | refine zG ?_ | refine zH ?_ | refine zV (by exact jL hl) ?_)
 refine zC (zA (zB (zB ?_)));refine uS Tryz.underlying33 rfl rfl rfl fun c hc => ?_;refine zA (zS rfl (fun c1 => ?_) (fun c1 => ?_))
 ·
  refine zB (zE zP [] 300 rfl ?_);repeat (first | refine zG ?_ | refine zH ?_ | refine zV (by exact jL hl) ?_)
  refine zC (zA ?_);refine jA 2 9 1 rfl ?_;refine uG0 300 rfl ?_;refine zL (zK ?_);obtain rfl := hc c1;exact FinH.ret 300 rfl rfl (Sub.refl _) ⟨SubO.mr rfl,trivial⟩
 ·
  refine zO (zA ?_);refine zB (zE zP [1005] 400 rfl ?_);repeat (first | refine zG ?_ | refine zH ?_ | refine zV (by first | rfl | exact jL hl | (simp only [MR.len,List.length_nil,List.length_map];omega)) ?_)
  refine zC (zA (zL ?_));exact FinH.ret 100 rfl rfl (Sub.mo (by rw [List.length_map,Nat.zero_add])) ⟨SubO.mr rfl,trivial⟩
theorem tM0 {P : Program} {f : FuncId} {ty : TypeId} {sz : Nat} (hb : Bod P f) {α : Type} (l : List α) (el : α → List D) (z : α) (i : Nat) (hi : i < l.length) (zc : List Value)
  (hz : ∀ w s,AllV w s (D.pvs (el z)) zc) (hz1 : ∀ v ∈ zc,v.oneCell' = true) (hsz : ∀ a,(D.pvs (el a)).length = sz) (hzl : zc.length = sz) (hpos : 0 < sz)
  (hC : ∀ (w : World) (G cap : Nat) (vs rest : List Value),CellB w G (vs ++ rest).toArray ty → vs.length = l.length * sz → (vs ++ rest).length = cap * sz → l.length ≤ cap → cap ≤ maxLen → (∀ v ∈ vs,v.oneCell' = true) →
   Calls P f #[.slice (some ⟨G,0,none⟩) l.length cap,.int .i64 (i : Nat),.int .i64 ((i : Nat) + 1)] w fun e w' => e = .returned (.slice (some ⟨G,0,none⟩) (l.length - 1) cap) ∧ w' = w.drew.setRow G (vs.take (i * sz) ++ vs.drop ((i + 1) * sz) ++ zc ++ rest).toArray) :
  FnG P f [.mo 0 l.length,.v (.int .i64 (i : Nat)),.v (.int .i64 ((i : Nat) + 1))] [.mrow ty sz (.map l el z)] (.sl false sz (l.eraseIdx i) el z) [.row ty sz l.length] := by
 refine ⟨hb,fun w s g vs hg hv => ?_⟩;obtain ⟨la',hla'⟩ : ∃ la',la' = l.eraseIdx i ++ [z] := ⟨_,rfl⟩;have hlen : la'.length = l.length := by rw [hla',List.length_append,List.length_eraseIdx_of_lt hi];simp;omega
 have hle : (l.eraseIdx i).length = l.length - 1 := List.length_eraseIdx_of_lt hi;have hpre : l.eraseIdx i = la'.take (l.eraseIdx i).length := by rw [hla',List.take_left]
 have pl : ∀ l : List α,(D.pvss (l.map el)).length = l.length := fun l => by rw [yL,List.length_map]
 have hrs : ∀ l : List α,∀ r ∈ D.pvss (l.map el),r.length = sz := fun l r hr => by
  rw [yK,List.map_map] at hr;obtain ⟨a,_,rfl⟩ := List.mem_map.1 hr;exact hsz a
 have hout : (D.sl false sz (l.eraseIdx i) el z).tv = .pv (PV.sl false sz ((D.pvss (la'.map el)).take (l.eraseIdx i).length)) := by
  show TV.pv (PV.sl false sz ((l.eraseIdx i).map fun a => D.pvs (el a))) = _;congr 2;rw [yK,List.map_map,← List.map_take,← hpre];rfl
 have hown : ows (vN 0 [.row ty sz l.length]) = [(0,Own.row ty sz (D.pvss (la'.map el)).length)] := by rw [pl,hlen];rfl
 rw [hout,hown]
 match vs,hv with
 | [v,a1,a2],⟨hv,ha1,ha2,_⟩ =>
  have hv : TV.P w s g (.mo 0 l.length) v := hv;rw [TV.P] at hv;have ha1 : a1 = .int .i64 (i : Nat) := ha1;have ha2 : a2 = .int .i64 ((i : Nat) + 1) := ha2;subst ha1 ha2;have hok : Ok1 w s g 0 (.mrow ty sz (D.pvss (l.map el))) := hg.ok 0 _ rfl;obtain ⟨hnone,u,hu,hcase⟩ := hok;have hu0 := hu;rw [pl] at hu hnone;have hvu : u = v := by have h1 := hv.1;rw [hu] at h1;exact Option.some.inj h1
  subst hvu;rcases hcase with ⟨rfl,he⟩ | ⟨G,cap,cs,rest,rfl,hG,hlc,hcm,hcl,hall,⟨hone,hone2⟩,hns⟩
  ·have : l.length = 0 := by rw [← pl,he];rfl
   omega
  ·rw [pl] at hlc;have hcsl : cs.length = l.length * sz := by
    rw [hall.length,uK (hrs l),pl]
   have hC' := hC w G cap cs rest hG hcsl hcl hlc hcm hone2;rw [pl];refine hC'.mono fun e w' hq => ?_;obtain ⟨rfl,rfl⟩ := hq;have hnl : (cs.take (i * sz) ++ cs.drop ((i + 1) * sz) ++ zc).length = cs.length := by
    have h1 : (i + 1) * sz ≤ l.length * sz := Nat.mul_le_mul_right _ hi;have h2 : (i + 1) * sz = i * sz + sz := Nat.succ_mul _ _;simp only [List.length_append,List.length_take,List.length_drop,hzl];omega
   have hput : CellB (w.drew.setRow G (cs.take (i * sz) ++ cs.drop ((i + 1) * sz) ++ zc ++ rest).toArray) G (cs.take (i * sz) ++ cs.drop ((i + 1) * sz) ++ zc ++ rest).toArray ty :=
    CellB.setRow (w := w.drew) (cur := (cs ++ rest).toArray) (hG.keep rfl) (by rw [List.size_toArray,List.size_toArray,List.length_append,hnl,List.length_append])
   have hbk0 : blk g 0 (Own.mrow ty sz (D.pvss (l.map el))) = some G := by rw [qQ hu0];rfl
   have hu' : g.gn 0 (D.pvss (la'.map el)).length = some (.slice (some ⟨G,0,none⟩) (D.pvss (la'.map el)).length cap) := by
    rw [pl la',hlen,hu,pl l]
   have hg1 : Good w s g [(0,Own.mrow ty sz (D.pvss (l.map el)))] [(0,Own.mrow ty sz (D.pvss (la'.map el)))] := ⟨hg.lt,hg.ok,hg.sep,fun k c h1 h2 => (by
    obtain ⟨rfl,_⟩ := jI h1;rw [zY] at h2;simp at h2),hg.gl⟩
   have hrows : (D.pvss (la'.map el)).flatten = (D.pvss (l.map el)).flatten.take (i * sz) ++ (D.pvss (l.map el)).flatten.drop ((i + 1) * sz) ++ D.pvs (el z) := by
    rw [← qQ0 _ i (hrs l),← qR0 _ (i + 1) (hrs l),hla',List.eraseIdx_eq_take_drop_succ,yK,yK,List.map_append,List.map_append,List.map_append,List.map_append,← List.map_take,← List.map_take,← List.map_drop,← List.map_drop,List.flatten_append,List.flatten_append];simp
   have S1 : Stp w s g [(0,Own.mrow ty sz (D.pvss (l.map el)))] (w.drew.setRow G (cs.take (i * sz) ++ cs.drop ((i + 1) * sz) ++ zc ++ rest).toArray) s g [(0,Own.mrow ty sz (D.pvss (la'.map el)))] := by
    refine Stp.reown hg1 (fun N o hbk => ?_) (by rw [size_setRow];exact Nat.le_refl _) (fun N hN hne => setRow_other _ _ _ _ (fun e => hne (by rw [e];exact hbk0))) (by rfl) (by rfl) (by rfl) (GLe.refl g) (fun _ _ => ⟨rfl,fun _ => rfl⟩) (fun hx => ?_) (fun N hbk => .inr ?_)
    ·rw [hbk0] at hbk;cases hbk;exact hns o
    ·refine ⟨fun m hm => hnone m (by rw [pl,hlen] at hm;exact hm),_,hu',.inr ⟨G,cap,cs.take (i * sz) ++ cs.drop ((i + 1) * sz) ++ zc,rest,rfl,hput,by rw [pl,hlen];exact hlc,hcm,by rw [List.length_append,hnl,← List.length_append];exact hcl,?_,⟨hrs la',fun v hv => ?_⟩,hns⟩⟩
     ·rw [hrows];exact AllV.mono (Ex.good hx) (((hall.take _).append (hall.drop _)).append (hz w s.good))
     ·rcases List.mem_append.1 hv with hv | hv
      ·rcases List.mem_append.1 hv with hv | hv
       ·exact hone2 v (List.mem_of_mem_take hv)
       ·exact hone2 v (List.mem_of_mem_drop hv)
      ·exact hz1 v hv
    ·rw [qQ hu'] at hbk;exact hbk0.trans hbk
   obtain ⟨s',h1,h2⟩ := S1.frzD
   have h3 := h1 (.slice (some ⟨G,0,none⟩) (D.pvss (la'.map el)).length cap) (by
    rw [TV.P];exact ⟨hu',.inr ⟨G,cap,rfl,by rw [pl,hlen];exact hlc,hcm⟩⟩)
   rw [TV.P] at h3;refine ⟨s',g,_,rfl,?_,h2⟩;rw [TV.P,← hle];exact sl_cutD h3.1 (by rw [pl,hlen,hle];omega)
def zValS : Value := .string ⟨#[]⟩
def zValV : Value := .agg #[.int .i64 0,.bool false,.slice none 0 0,.bool false,.slice none 0 0,.string ⟨#[]⟩,.int .i64 0]
set_option maxHeartbeats 4000000 in
set_option maxRecDepth 1000000 in
theorem del_walkS (w : World) (G cap n i : Nat) (vs rest : List Value) (hB : CellB w G (vs ++ rest).toArray 9) (hl : vs.length = n * 1) (hr : (vs ++ rest).length = cap * 1) (hn : n ≤ cap) (hm : cap ≤ maxLen) (hone : ∀ v ∈ vs,v.oneCell' = true) (hi : i < n) (j : Nat) (hj : j = i + 1) :
  Calls Tryz.prog 44 #[.slice (some ⟨G,0,none⟩) n cap,.int .i64 (i : Nat),.int .i64 (j : Nat)] w fun e w' => e = .returned (.slice (some ⟨G,0,none⟩) (n - 1) cap) ∧ w' = w.drew.setRow G (vs.take (i * 1) ++ vs.drop (j * 1) ++ (zValS).cells.toList ++ rest).toArray := by
 have hm' : cap ≤ 9223372036854775807 := Nat.le_trans hm (by decide);obtain ⟨news,hnews⟩ : ∃ news,news = vs.drop (j * 1) := ⟨_,rfl⟩;have hlen : news.length = (n - j) * 1 := by rw [hnews,List.length_drop,hl];omega
 obtain ⟨cur,hcur⟩ : ∃ cur,cur = (vs ++ rest).toArray := ⟨_,rfl⟩;have hctl : cur.toList = vs ++ rest := by rw [hcur]
 rw [← hcur] at hB;obtain ⟨A,hA,hsrc⟩ : ∃ A : Addr,(if cap = j then some (⟨G,0,none⟩ : Addr) else some ⟨G,j,none⟩) = some A ∧ Hid (∀ t u,news[t]? = some u → w.drew.cell? (A.add t) = some u) := by
  by_cases h : cap = j
  ·refine ⟨⟨G,0,none⟩,by simp [h],fun t u hu => ?_⟩;have h0 : news.length = 0 := by rw [hlen];omega
   rw [List.length_eq_zero_iff.1 h0] at hu;simp at hu
  ·refine ⟨⟨G,j,none⟩,by simp [h],fun t u hu => ?_⟩;rw [Addr.add_lit];have h1 : w.drew.cell? ⟨G,j + t,none⟩ = cur[j + t]? := CellB.cell (w := w.drew) (hB.keep rfl) _;rw [h1,hcur,List.getElem?_toArray];rw [hnews,List.getElem?_drop,Nat.mul_one] at hu;have h2 := (List.getElem?_eq_some_iff.1 hu).1;rw [List.getElem?_append_left h2];exact hu
 have s1 : Hid (news.length = (n - j) * 1) := hlen;have s2 : Hid (∀ u ∈ news,u.oneCell' = true) := fun u hu => hone u (by rw [hnews] at hu;exact List.mem_of_mem_drop hu);have sB : Hid (CellB w.drew G cur 9) := hB.keep rfl;have hfit : Hid (i * 1 + news.length ≤ cur.size) := by
  unfold Hid;rw [hlen,hcur,List.size_toArray,List.length_append,hl];omega
 obtain ⟨W1,hW1⟩ : ∃ W1,W1 = w.drew.setRow G (cur.toList.take (i * 1) ++ news ++ cur.toList.drop (i * 1 + news.length)).toArray := ⟨_,rfl⟩;have hc1 : (cur.toList.take (i * 1) ++ news ++ cur.toList.drop (i * 1 + news.length)).length = (vs ++ rest).length := by
  have := hfit.out;rw [hcur,List.size_toArray] at this;rw [hctl];simp only [List.length_append,List.length_take,List.length_drop] at this ⊢;omega
 have hB1 : CellB W1 G (cur.toList.take (i * 1) ++ news ++ cur.toList.drop (i * 1 + news.length)).toArray 9 := by
  rw [hW1];exact CellB.setRow (w := w.drew) (cur := cur) (hB.keep rfl) (by rw [List.size_toArray,hcur,List.size_toArray,← hc1,hctl])
 obtain ⟨W2,hW2⟩ : ∃ W2,W2 = w.drew.setRow G (vs.take (i * 1) ++ vs.drop (j * 1) ++ (zValS).cells.toList ++ rest).toArray := ⟨_,rfl⟩;have hcl : ∀ ty,(Builtin.clear_ #[33] ty #[.slice (some ⟨G,i + (n - j),none⟩) (n - (i + (n - j))) (cap - (i + (n - j)))]).run Tryz.prog W1 = .ok (.tuple #[]) W2 := fun ty => by
  rw [hW2];rw [show n - (i + (n - j)) = 1 by omega,show i + (n - j) = n - 1 by omega];rw [show (some (⟨G,n - 1,none⟩ : Addr)) = some ⟨G,(n - 1) * 1,none⟩ by rw [Nat.mul_one],tM W1 33 9 ty zValS Tryz.underlying33 (fun w => by kernel_rfl) G ((n - 1) * 1) (cap - (n - 1)) _ hB1 (by show (n - 1) * 1 + 1 ≤ _;rw [List.size_toArray,hc1,List.length_append,hl];omega) (by decide),hW1,setRow_setRow];congr 2;have e1 : (vs ++ rest).take (i * 1) = vs.take (i * 1) := by rw [List.take_append_of_le_length (by omega)]
  have e2 : (i * 1 + news.length) = (n - 1) * 1 := by rw [hlen];omega
  have e3 : (vs.take (i * 1) ++ news).length = (n - 1) * 1 := by rw [List.length_append,List.length_take,hlen,hl];omega
  have e4 : ((vs ++ rest).drop ((n - 1) * 1)).drop 1 = rest := by rw [List.drop_drop,show (n - 1) * 1 + 1 = vs.length by omega,List.drop_left]
  simp only [List.toList_toArray,hctl,e1,e2];rw [List.take_left' e3,← List.drop_drop,List.drop_left' e3,show zValS.cells.size = 1 from rfl,e4,← hnews]
 have hW : Hid (W1 = w.drew.setRow G (cur.toList.take (i * 1) ++ news ++ cur.toList.drop (i * 1 + news.length)).toArray) := hW1;have hX := Lib.hid hW2;have hic : i ≤ cap := by omega
 have hjc : j ≤ cap := by omega
 have hij : i < j := by omega
 have hjn : j ≤ n := by omega
 have mixed := yP;have hJ := Lib.hid hj;clear hctl hcur hW2 hW1 hB1 hB hnews hlen hone hr hl hc1 hj
 go_enter Tryz.func44,Tryz.ntmps44
 go_wp2_with fail
 go_region_law_o (refine yN0 rfl (.tmp 22) (.tmp 25) 33 rfl 9 Tryz.t9 1 Tryz.underlying33 (by kernel_rfl) rfl G i cap (by simp [Act.eval,Act.put]) _ sB.out A (n - j) (cap - j) news (by simp [Act.eval,Act.put]) s1.out hsrc.out s2.out (by omega) hfit.out ?_;rw [← hW.out])
 go_wp2
 go_ret
 have := hJ.out;exact ⟨by rw [show n - 1 = i + (n - j) by omega];rfl,hX.out⟩
set_option maxHeartbeats 4000000 in
set_option maxRecDepth 1000000 in
theorem del_walkV (w : World) (G cap n i : Nat) (vs rest : List Value) (hB : CellB w G (vs ++ rest).toArray 29) (hl : vs.length = n * 7) (hr : (vs ++ rest).length = cap * 7) (hn : n ≤ cap) (hm : cap ≤ maxLen) (hone : ∀ v ∈ vs,v.oneCell' = true) (hi : i < n) (j : Nat) (hj : j = i + 1) :
  Calls Tryz.prog 45 #[.slice (some ⟨G,0,none⟩) n cap,.int .i64 (i : Nat),.int .i64 (j : Nat)] w fun e w' => e = .returned (.slice (some ⟨G,0,none⟩) (n - 1) cap) ∧ w' = w.drew.setRow G (vs.take (i * 7) ++ vs.drop (j * 7) ++ (zValV).cells.toList ++ rest).toArray := by
 have hm' : cap ≤ 9223372036854775807 := Nat.le_trans hm (by decide);obtain ⟨news,hnews⟩ : ∃ news,news = vs.drop (j * 7) := ⟨_,rfl⟩;have hlen : news.length = (n - j) * 7 := by rw [hnews,List.length_drop,hl];omega
 obtain ⟨cur,hcur⟩ : ∃ cur,cur = (vs ++ rest).toArray := ⟨_,rfl⟩;have hctl : cur.toList = vs ++ rest := by rw [hcur]
 rw [← hcur] at hB;obtain ⟨A,hA,hsrc⟩ : ∃ A : Addr,(if cap = j then some (⟨G,0,none⟩ : Addr) else some ⟨G,j * 7,none⟩) = some A ∧ Hid (∀ t u,news[t]? = some u → w.drew.cell? (A.add t) = some u) := by
  by_cases h : cap = j
  ·refine ⟨⟨G,0,none⟩,by simp [h],fun t u hu => ?_⟩;have h0 : news.length = 0 := by rw [hlen];omega
   rw [List.length_eq_zero_iff.1 h0] at hu;simp at hu
  ·refine ⟨⟨G,j * 7,none⟩,by simp [h],fun t u hu => ?_⟩;rw [Addr.add_lit];have h1 : w.drew.cell? ⟨G,j * 7 + t,none⟩ = cur[j * 7 + t]? := CellB.cell (w := w.drew) (hB.keep rfl) _;rw [h1,hcur,List.getElem?_toArray];rw [hnews,List.getElem?_drop] at hu;have h2 := (List.getElem?_eq_some_iff.1 hu).1;rw [List.getElem?_append_left h2];exact hu
 have s1 : Hid (news.length = (n - j) * 7) := hlen;have s2 : Hid (∀ u ∈ news,u.oneCell' = true) := fun u hu => hone u (by rw [hnews] at hu;exact List.mem_of_mem_drop hu);have sB : Hid (CellB w.drew G cur 29) := hB.keep rfl;have hfit : Hid (i * 7 + news.length ≤ cur.size) := by
  unfold Hid;rw [hlen,hcur,List.size_toArray,List.length_append,hl];omega
 obtain ⟨W1,hW1⟩ : ∃ W1,W1 = w.drew.setRow G (cur.toList.take (i * 7) ++ news ++ cur.toList.drop (i * 7 + news.length)).toArray := ⟨_,rfl⟩;have hc1 : (cur.toList.take (i * 7) ++ news ++ cur.toList.drop (i * 7 + news.length)).length = (vs ++ rest).length := by
  have := hfit.out;rw [hcur,List.size_toArray] at this;rw [hctl];simp only [List.length_append,List.length_take,List.length_drop] at this ⊢;omega
 have hB1 : CellB W1 G (cur.toList.take (i * 7) ++ news ++ cur.toList.drop (i * 7 + news.length)).toArray 29 := by
  rw [hW1];exact CellB.setRow (w := w.drew) (cur := cur) (hB.keep rfl) (by rw [List.size_toArray,hcur,List.size_toArray,← hc1,hctl])
 obtain ⟨W2,hW2⟩ : ∃ W2,W2 = w.drew.setRow G (vs.take (i * 7) ++ vs.drop (j * 7) ++ (zValV).cells.toList ++ rest).toArray := ⟨_,rfl⟩;have hcl : ∀ ty,(Builtin.clear_ #[34] ty #[.slice (some ⟨G,(i + (n - j)) * 7,none⟩) (n - (i + (n - j))) (cap - (i + (n - j)))]).run Tryz.prog W1 = .ok (.tuple #[]) W2 := fun ty => by
  rw [hW2];rw [show n - (i + (n - j)) = 1 by omega,show i + (n - j) = n - 1 by omega];rw [tM W1 34 29 ty zValV Tryz.underlying34 (fun w => by kernel_rfl) G ((n - 1) * 7) (cap - (n - 1)) _ hB1 (by show (n - 1) * 7 + 7 ≤ _;rw [List.size_toArray,hc1,List.length_append,hl];omega) (by decide),hW1,setRow_setRow];congr 2;have e1 : (vs ++ rest).take (i * 7) = vs.take (i * 7) := by rw [List.take_append_of_le_length (by omega)]
  have e2 : (i * 7 + news.length) = (n - 1) * 7 := by rw [hlen];omega
  have e3 : (vs.take (i * 7) ++ news).length = (n - 1) * 7 := by rw [List.length_append,List.length_take,hlen,hl];omega
  have e4 : ((vs ++ rest).drop ((n - 1) * 7)).drop 7 = rest := by rw [List.drop_drop,show (n - 1) * 7 + 7 = vs.length by omega,List.drop_left]
  simp only [List.toList_toArray,hctl,e1,e2];rw [List.take_left' e3,← List.drop_drop,List.drop_left' e3,show zValV.cells.size = 7 from rfl,e4,← hnews]
 have hW : Hid (W1 = w.drew.setRow G (cur.toList.take (i * 7) ++ news ++ cur.toList.drop (i * 7 + news.length)).toArray) := hW1;have hX := Lib.hid hW2;have hic : i ≤ cap := by omega
 have hjc : j ≤ cap := by omega
 have hij : i < j := by omega
 have hjn : j ≤ n := by omega
 have mixed := yP;have hJ := Lib.hid hj;clear hctl hcur hW2 hW1 hB1 hB hnews hlen hone hr hl hc1 hj
 go_enter Tryz.func45,Tryz.ntmps45
 go_wp2_with fail
 go_region_law_o (refine yN0 rfl (.tmp 22) (.tmp 25) 34 rfl 29 Tryz.t29 7 Tryz.underlying34 (by kernel_rfl) rfl G i cap (by simp [Act.eval,Act.put]) _ sB.out A (n - j) (cap - j) news (by simp [Act.eval,Act.put]) s1.out hsrc.out s2.out (by omega) hfit.out ?_;rw [← hW.out])
 go_wp2
 go_ret
 have := hJ.out;exact ⟨by rw [show n - 1 = i + (n - j) by omega];rfl,hX.out⟩
theorem DeleteS_G (l : List ByteArray) (k : Int) (h0 : 0 ≤ k) (hk : k.toNat < l.length) : FnG Tryz.prog 44 [.mo 0 l.length,.v (.int .i64 k),.v (.int .i64 (k + 1))] [.mrow 9 1 (.map l sD ByteArray.empty)] (.sl false 1 (l.eraseIdx k.toNat) sD ByteArray.empty) [.row 9 1 l.length] := by
 obtain ⟨i,rfl⟩ : ∃ i : Nat,k = i := ⟨k.toNat,by omega⟩;refine tM0 ⟨_,Tryz.func44,rfl,rfl⟩ l sD ByteArray.empty i hk zValS.cells.toList (fun w s => ⟨rfl,trivial⟩) (by decide) (fun _ => rfl) rfl (by decide) (fun w G cap vs rest hB hl hr hn hm hone => ?_);exact del_walkS w G cap l.length i vs rest hB hl hr hn hm hone hk (i + 1) rfl
theorem zVal_ok (w : World) (s : Sb) : AllV w s (D.pvs (vlD vl0)) zValV.cells.toList := by
 have hn : ∀ sz,(PV.sl false sz []).p w s (.slice none 0 0) := fun sz => ⟨none,0,rfl,Nat.le_refl _,by decide,(fun _ h => by cases h),fun i row h => by simp at h⟩;exact ⟨rfl,rfl,hn 1,rfl,hn 1,rfl,rfl,trivial⟩
theorem DeleteV_G (l : List Vl) (k : Int) (h0 : 0 ≤ k) (hk : k.toNat < l.length) : FnG Tryz.prog 45 [.mo 0 l.length,.v (.int .i64 k),.v (.int .i64 (k + 1))] [.mrow 29 7 (.map l vlD vl0)] (.sl false 7 (l.eraseIdx k.toNat) vlD vl0) [.row 29 7 l.length] := by
 obtain ⟨i,rfl⟩ : ∃ i : Nat,k = i := ⟨k.toNat,by omega⟩;refine tM0 ⟨_,Tryz.func45,rfl,rfl⟩ l vlD vl0 i hk zValV.cells.toList zVal_ok (by decide) (fun _ => rfl) rfl (by decide) (fun w G cap vs rest hB hl hr hn hm hone => ?_);exact del_walkV w G cap l.length i vs rest hB hl hr hn hm hone hk (i + 1) rfl
variable {md me : Bool}
theorem pJ0 {h : List Ob} {n : Int} (hn : inH h n) : h.set n.toNat (zW h n) = h := by
 have h2 := hn.2;have e : zW h n = h[n.toNat] := by show h.getD n.toNat ob0 = _;rw [List.getD_eq_getElem?_getD,List.getElem?_eq_getElem h2];rfl
 rw [e];exact List.set_getElem_self h2
theorem jE0 (h : List Ob) (v : Vl) (hv : v.k = 6 → yD h v.r = true) : Fn Tryz.prog 32 [hpD md h,.agg (vlD v)] (.v (.bool (!wokS h v))) := by
 refine yQ zP Tryz.func32 rfl rfl rfl rfl rfl rfl ?_;intro w0 s0 mx;refine zN 100 ?_;refine zB ?_;refine zB (zE zP [] 200 rfl ?_);refine zF ?_;refine zQ _ (yJ h v hv) rfl ?_;refine zF ?_;refine zC (zA (zU (zB (zN 300 ?_))));refine zZ (fun c2 => ?_) (fun c2 => ?_)
 ·
  refine zO (zA (zZ (fun c2x => ?_) (fun c2x => ?_)))
  ·
   refine zN 500 ?_;refine zL (zM (zK ?_));exact FinV.ret rfl (SubP.bool (by simp_all [wokS]))
  ·
   simp_all
 ·
  refine qC zP [] 400 ?_;refine zA (zZ (fun c3 => ?_) (fun c3 => ?_))
  ·
   refine zN 500 ?_;refine zL (zM (zK ?_));exact FinV.ret rfl (SubP.bool (by simp_all [wokS]))
  ·
   refine zN 600 ?_;refine zZ (fun c5 => ?_) (fun c5 => ?_)
   ·
    refine zN 700 ?_;refine zL (zM (zK ?_));exact FinV.ret rfl (SubP.bool (by simp_all [wokS]))
   ·
    refine zO (zR (zA (zN 800 ?_)));refine zL ?_;exact FinV.ret rfl (SubP.bool (by simp_all [wokS]))
theorem fixed_ok (h : List Ob) (v : Vl) (s : ByteArray) (g : Uh h) (hv : v.k = 6 → yD h v.r = true) : Fn Tryz.prog 37 [hpD md h,.agg (vlD v),.v (.string s)] (.v (.bool (fixS h v s))) := by
 refine yQ zP Tryz.func37 rfl rfl rfl rfl rfl rfl ?_;intro w0 s0 mx;refine zN 100 ?_;refine zB ?_;refine zB (zE zP [] 200 rfl ?_);refine zF ?_;refine zQ _ (yJ h v hv) rfl ?_;refine zF ?_;refine zC (zA (zN 300 ?_));refine zU (zN 400 ?_);refine zZ (fun c3 => ?_) (fun c3 => ?_)
 ·
  refine zN 500 ?_;refine zL (zM (zK ?_));exact FinV.ret rfl (SubP.bool (by rw [fixS,if_pos (by simpa using c3)];rfl))
 ·
  refine zN 600 ?_;refine zS rfl (fun c5 => ?_) (fun c5 => ?_)
  ·have hk10 : (zJ h v).kind = 10 := by simpa using c5
   have hcin := inst_cls g hk10;refine zN 700 ?_;refine zU (zB (zN 800 ?_));refine zZ (fun c7 => ?_) (fun c7 => ?_)
   ·
    refine zO (zA (zZ (fun c7x => ?_) (fun c7x => ?_)))
    ·
     refine zB (zE zP [] 1200 rfl ?_);refine zF ?_;refine zQ _ (jT h (zJ h v).cls 28 hcin) rfl ?_;refine zF ?_;refine zC (zA (zL (zM (zM (zK ?_)))));exact FinV.ret rfl (SubP.bool (by simp_all [fixS,argN,vX,ctxN,vS,gW]))
    ·
     simp_all
   ·
    refine zN 900 ?_;refine zZ (fun c8 => ?_) (fun c8 => ?_)
    ·
     refine zO (zA (zZ (fun c8x => ?_) (fun c8x => ?_)))
     ·
      refine zB (zE zP [] 1200 rfl ?_);refine zF ?_;refine zQ _ (jT h (zJ h v).cls 28 hcin) rfl ?_;refine zF ?_;refine zC (zA (zL (zM (zM (zK ?_)))));exact FinV.ret rfl (SubP.bool (by simp_all [fixS,argN,vX,ctxN,vS,gW]))
     ·
      simp_all
    ·
     refine zN 1000 ?_;refine zZ (fun c9 => ?_) (fun c9 => ?_)
     ·
      refine zO (zA (zZ (fun c9x => ?_) (fun c9x => ?_)))
      ·
       refine zB (zE zP [] 1200 rfl ?_);refine zF ?_;refine zQ _ (jT h (zJ h v).cls 28 hcin) rfl ?_;refine zF ?_;refine zC (zA (zL (zM (zM (zK ?_)))));exact FinV.ret rfl (SubP.bool (by simp_all [fixS,argN,vX,ctxN,vS,gW]))
      ·
       simp_all
     ·
      refine qC zP [] 1100 ?_;refine zA (zZ (fun c10 => ?_) (fun c10 => ?_))
      ·
       refine zB (zE zP [] 1200 rfl ?_);refine zF ?_;refine zQ _ (jT h (zJ h v).cls 28 hcin) rfl ?_;refine zF ?_;refine zC (zA (zL (zM (zM (zK ?_)))));exact FinV.ret rfl (SubP.bool (by simp_all [fixS,argN,vX,ctxN,vS,gW]))
      ·
       refine zN 1300 ?_;refine zZ (fun c12 => ?_) (fun c12 => ?_)
       ·
        refine zB (zE zP [] 1400 rfl ?_);refine zF ?_;refine zQ _ (jT h (zJ h v).cls 48 hcin) rfl ?_;refine zF ?_;refine zC (zA (zL (zM (zM (zK ?_)))));exact FinV.ret rfl (SubP.bool (by simp_all [fixS,argN,vX,ctxN,vS,gW]))
       ·
        refine zO (zR (zR (zA (zN 1500 ?_))));refine zL ?_;exact FinV.ret rfl (SubP.bool (by simp_all [fixS,argN,vX,ctxN,vS,gW]))
  ·
   refine zO (zR (zA (zN 1500 ?_)));refine zL ?_;exact FinV.ret rfl (SubP.bool (by simp_all [fixS,argN,vX,ctxN,vS,gW]))
theorem changed_G (h : List Ob) (v : Vl) (hh : h.length ≤ 4000000) (hin : inH h v.r) (hst : 0 ≤ (zW h v.r).state ∧ (zW h v.r).state ≤ 1099511627776) : FnG Tryz.prog 41 [.bp 0 0,.agg (vlD v)] (hpO h) (.v (.tuple #[])) (hpO (h.set v.r.toNat (vC (zW h v.r)))) := by
 refine jJ zP Tryz.func41 rfl rfl rfl rfl rfl rfl rfl ?_;intro w0 s0 mx;refine zN 100 ?_;refine zB (zT zP [] mK23 200 yP (by kernel_rfl) rfl ?_);repeat (first | refine zG ?_ | refine zH ?_ | refine zV (by first | exact ⟨hin.1,hin.2⟩ | exact ⟨rfl,hin.2⟩ | exact ⟨by simp [MR.len],by simpa [MR.len] using hin.2⟩ | rfl | (simp only [MR.len];done) | first | exact trivial | omega | exact ini (by omega) (by omega) | (intro hh;simp at hh;exact ini (by omega) (by omega)) | (intro hh;simp at hh ⊢;omega) | (simp at *;omega) | (simp_all;done)) ?_)
 refine zC (zA (zZ (fun c1 => ?_) (fun c1 => ?_)))
 ·
  refine zT zP [] mK24 300 yP (by kernel_rfl) rfl ?_;repeat (first | refine zG ?_ | refine zH ?_ | refine zV (by first | exact ⟨hin.1,hin.2⟩ | exact ⟨rfl,hin.2⟩ | exact ⟨by simp [MR.len],by simpa [MR.len] using hin.2⟩ | rfl | (simp only [MR.len];done) | (show InI _;exact ⟨by have := hst.1;show _ ≤ (zW h v.r).state + 1;omega,by have := hst.2;show (zW h v.r).state + 1 ≤ _;omega⟩) | first | exact trivial | omega | exact ini (by omega) (by omega) | (intro hh;simp at hh;exact ini (by omega) (by omega)) | (intro hh;simp at hh ⊢;omega) | (simp at *;omega) | (simp_all;done)) ?_)
  refine zC ?_;exact FinH.normal 2 rfl rfl (Sub.refl _) ⟨⟨rfl,Sub.mo (by simp),rfl,trivial⟩,SubO.mp (by rw [show vC (zW h v.r) = { zW h v.r with state := (zW h v.r).state + 1 } from if_pos (by simpa using c1)];exact dG rfl),trivial⟩
 ·
  refine zO ?_;exact FinH.normal 2 rfl rfl (Sub.refl _) ⟨⟨rfl,Sub.mo (by simp),rfl,trivial⟩,SubO.mp (by rw [show vC (zW h v.r) = zW h v.r from if_neg (by simpa using c1),pJ0 hin]),trivial⟩
variable {md me : Bool}
theorem upd2_ob {h : List Ob} {n : Nat} {o : Ob} {r1 row : List D} (hr : D.pvs row = D.pvs (obD o)) : D.pvss (((h.map obD).set n r1).set n row) = D.pvss ((h.set n o).map obD) := by
 rw [List.set_set];exact dG hr
theorem ob_put (o : Ob) (k m : Nat) (N : List ByteArray) (I : List Vl) : D.pvs ((obD o).take 5 ++ [.own k 1 (N.map sD),.own m 7 (I.map vlD)] ++ (obD o).drop 7) = D.pvs (obD { o with names := N,items := I }) := by
 show D.pvs [_,_,_,_,_,D.own k 1 (N.map sD),D.own m 7 (I.map vlD),_,_,_] = D.pvs [_,_,_,_,_,D.sl false 1 N sD ByteArray.empty,D.sl false 7 I vlD vl0,_,_,_];simp only [D.pvs,D.pv,yK,List.map_map];rfl
theorem put_eq (o : Ob) (s : ByteArray) (w : Vl) : { o with names := (jB o s w).names,items := (jB o s w).items } = jB o s w := by
 unfold jB;split <;> rfl
theorem kS {h : List Ob} {n : Int} {o : Ob} (hn : inH h n) : zW (h.set n.toNat o) n = o := by
 show (h.set n.toNat o).getD n.toNat ob0 = o;rw [List.getD_eq_getElem?_getD,List.getElem?_set,if_pos rfl,if_pos hn.2];rfl
theorem kB0 {h : List Ob} {n m : Int} {o : Ob} (hn : inH h n) : inH (h.set m.toNat o) n := ⟨hn.1,by rw [List.length_set];exact hn.2⟩
theorem cut_row {h : List Ob} {n : Nat} {o1 o2 : Ob} {row : List D} (hr : D.pvs row = D.pvs (obD o2)) : D.pvss (((h.set n o1).map obD).set n row) = D.pvss ((h.set n o2).map obD) := by
 rw [dG hr,List.set_set]
theorem gM0 (o : Ob) (s : ByteArray) (w : Vl) : (jB o s w).state = o.state := by
 unfold jB;split <;> rfl
theorem jV0 {P : Program} {K : DS → Prop} {p : Prop} {r : Out} (hr : r.sat P K) (hp : p := by first | (simp only [ByteArray.size_append,kbs,List.size_toArray,List.length_cons,List.length_nil];omega) | (simp only [ByteArray.size_append,kbs,List.size_toArray,List.length_cons,List.length_nil];have := hz;omega) | first | exact trivial | omega | exact ini (by omega) (by omega) | (intro hh;simp at hh;exact ini (by omega) (by omega)) | (intro hh;simp at hh ⊢;omega) | (simp at *;omega) | (simp_all;done)) : (Out.need p r).sat P K := ⟨hp,hr⟩
theorem dV0 {P : Program} {K : DS → Prop} {p : Prop} {r : Out} (hr : r.sat P K) (hp : p := by first | exact ⟨by decide,by rw [hp3];decide⟩ | exact ⟨rfl,by rw [hp3];decide⟩ | first | exact trivial | omega | exact ini (by omega) (by omega) | (intro hh;simp at hh;exact ini (by omega) (by omega)) | (intro hh;simp at hh ⊢;omega) | (simp at *;omega) | (simp_all;done)) : (Out.need p r).sat P K := ⟨hp,hr⟩
set_option maxHeartbeats 2000000 in
theorem Set_G (h : List Ob) (v : Vl) (s : ByteArray) (w : Vl) (hh : HpIn h) (g : Uh h) (hv : hasS h v = true) (hs : s.size ≤ 100) : FnG Tryz.prog 11 [.bp 0 0,.agg (vlD v),.v (.string s),.agg (vlD w)] (hpO h) (.agg (stD (setS h v s w).1)) (hpO (setS h v s w).2) := by
 have hg5 := g.hi;obtain ⟨R,hR⟩ : ∃ R,R = setS h v s w := ⟨_,rfl⟩;rw [← hR];have hvr := uC hv;have hcf := cf_of g hv;have hci := clA_in g hcf;have hnz := nm_sz g hci;have hhl := hh.len;have hz : qB.size = 1 ∧ nwaB.size = 28 ∧ cnwB.size = 19 ∧ cndB.size = 19 ∧ atB.size = 11 ∧ cqB.size = 7 ∧ mqB.size = 8 ∧ nhB.size = 20 := by decide
 have hoz := obj_sz g v;refine jJ zP Tryz.func11 rfl rfl rfl rfl rfl rfl rfl ?_;intro w0 s0 mx;refine zN 100 ?_;refine zB ?_;refine zB (zT zP [] [[],[0],[0,1],[],[0,1,2,3]] 200 yP (by kernel_rfl) rfl ?_);refine zF ?_;refine yI _ (jE0 h v hvr) rfl rfl ?_;refine zF ?_;refine zC (zA (zS rfl (fun c1 => ?_) (fun c1 => ?_)))
 ·have c1w : wokS h v = false := by simpa using c1
  refine zB (zT zP [] mK25 300 yP (by kernel_rfl) rfl ?_);repeat (first | refine zG ?_ | refine zH ?_ | refine jV0 ?_)
  refine yI _ (heapName_ok h v g hcf) rfl rfl ?_;repeat (first | refine zG ?_ | refine zH ?_ | refine jV0 ?_)
  refine zQ _ (yX _) rfl ?_;repeat (first | refine zG ?_ | refine zH ?_ | refine jV0 ?_)
  refine zC (zA (zL (zK ?_)));have hn : R = (raS 36 (qB ++ (zW h (clA h v)).name ++ nwaB),h) := by
   rw [hR];unfold setS chS;rw [if_pos c1w]
  subst hn;exact wN
 ·have c1w : wokS h v = true := by simpa using c1
  have wr := wr_of g c1w;have hwr := wr.inr;have hwe := wr.eo;have hwn := wr.nl;have hwi := wr.il;have hwq := wr.ni;have hwt := wr.st;refine zO (zA ?_);refine zB (zT zP [] mK1 400 yP (by kernel_rfl) rfl ?_);refine zF ?_;refine yI _ (yJ h v hvr) rfl rfl ?_;refine zF ?_;refine zC (zA ?_);refine yN [0,2,5,7,8,9] [0,1,2,3,4,205] 410 [] [(205,.box 36 (obD (zJ h v)))] ?_;refine ⟨⟨yR,⟨⟨rfl,SubL.same rfl⟩,yM⟩,rfl,rfl⟩,?_⟩;refine dC (ι := {_u : Unit // R = chF h v s cnwB (setF h v s w)}) [0,2,5,7,8,9] [0,1,2,3,4,205] 1600 (fun _ => []) (fun _ => []) ?_;refine ⟨?_,fun j => ?_⟩
  ·refine zN 500 ?_;refine zS rfl (fun c4 => ?_) (fun c4 => ?_)
   ·have c4w : (zJ h v).kind = 10 := by simpa using c4
    have hcin := inst_cls g c4w;have hfr : (chV h v s).k = 6 → yD h (chV h v s).r = true := fun hk9 => fd_rv hh g hcin s hk9;have hfind := jW (md := true) h (zJ h v).cls s hh hcin (cok_of hh g hcin);refine zB (zT zP [] mK26 600 yP (by kernel_rfl) rfl ?_);refine zF ?_;refine yI _ (hfind) rfl rfl ?_;refine zF ?_;refine zC (zA (zB ?_));refine zB (zT zP [] mK1 700 yP (by kernel_rfl) rfl ?_);refine zF ?_;refine yI _ (yJ h (chV h v s) hfr) rfl rfl ?_;refine zF ?_;refine zC (zA ?_);refine yN [0,2,5,7,8,9,10,12,13] [0,1,2,3,4,205,511,605] 710 [] [(605,.box 36 (obD (zJ h (chV h v s))))] ?_;refine ⟨⟨yR,⟨⟨rfl,SubL.same rfl⟩,yM⟩,rfl,rfl⟩,?_⟩;refine zN 800 ?_;refine zS rfl (fun c7 => ?_) (fun c7 => ?_)
    ·have c7w : (chO h v s).isSome = true ∧ (zJ h (chV h v s)).kind = 12 := by
      have h7 : ((chO h v s).isSome && decide ((zJ h (chV h v s)).kind = 12)) = true := c7
      rwa [Bool.and_eq_true,decide_eq_true_eq] at h7
     have hp3 := prop_item g c7w.2;refine zB ?_;refine zB (zE zP [] 900 rfl ?_);repeat (first | refine zG ?_ | refine zH ?_ | refine dV0 ?_)
     refine zC (zA (zS rfl (fun c8 => ?_) (fun c8 => ?_)))
     ·have c8w : ((zJ h (chV h v s)).items.getD 1 vl0).k = 0 := by simpa using c8
      refine zB (zE zP [] 1000 rfl ?_);repeat (first | refine zG ?_ | refine zH ?_ | refine jV0 ?_)
      refine zQ _ (yX _) rfl ?_;repeat (first | refine zG ?_ | refine zH ?_ | refine jV0 ?_)
      refine zC (zA (zL (zK (zK ?_))));refine xA ?_;have hn : R = (raS 36 (atB ++ s ++ cnwB),h) := by
       rw [hR];unfold setS chS;rw [if_neg (by rw [c1w];decide),if_pos ⟨c4w,c7w.1,c7w.2,c8w⟩]
      subst hn;exact wN
     ·have c8w : ¬ ((zJ h (chV h v s)).items.getD 1 vl0).k = 0 := by simpa using c8
      refine zO (zA ?_);refine zB (zT zP [] [[],[0],[0,1],[0,1,2],[],[],[4,5],(rgN 7),(rgN 8)] 1100 yP (by kernel_rfl) rfl ?_);repeat (first | refine zG ?_ | refine zH ?_ | refine dV0 ?_)
      refine zQ _ ((xY _ [v,w]).args ⟨SubP.refl _,SubP.slrSl (m := false) rfl,trivial⟩) rfl ?_;repeat (first | refine zG ?_ | refine zH ?_ | refine dV0 ?_)
      refine zC (zA (zL (zK ?_)));refine xA ?_;have hn : R = (caS ((zJ h (chV h v s)).items.getD 1 vl0) [v,w],h) := by
       rw [hR];unfold setS chS;rw [if_neg (by rw [c1w];decide),if_neg (fun hh9 => c8w hh9.2.2.2),if_pos ⟨c4w,c7w⟩]
      subst hn;exact wN
    ·have c7w : ¬ ((chO h v s).isSome = true ∧ (zJ h (chV h v s)).kind = 12) := by
      rintro ⟨h8,h9⟩;have h7 : ((chO h v s).isSome && decide ((zJ h (chV h v s)).kind = 12)) = false := c7;rw [h8,decide_eq_true h9] at h7
      cases h7
     refine zO (zA ?_);refine zB (zT zP [] [[],[0],[0,1],[],[],[],[4,5],(rgN 7),(rgN 8),(rgN 9),(rgN 9),[],[0,1,2,3,4,5,6,7,8,9,11],(rgN 13)] 1200 yP (by kernel_rfl) rfl ?_);refine zF ?_;refine yI _ ((atSpecial_ok h (chV h v s) onWr [v,w] hh g hfr (by show 2 ≤ 1000000;decide)).args ⟨SubP.refl _,SubP.refl _,SubP.refl _,SubP.slrSl (m := false) rfl,trivial⟩) rfl rfl ?_;refine zF ?_;refine zC (zA (zN 1300 ?_));refine zS rfl (fun c12 => ?_) (fun c12 => ?_)
     ·have c12w : (chO h v s).isSome = true ∧ (spS h (chV h v s) onWr).2.2 = true := by
       have h7 : ((chO h v s).isSome && (spS h (chV h v s) onWr).2.2) = true := c12
       rwa [Bool.and_eq_true] at h7
      refine zN 1400 ?_;refine zL ?_;refine xA ?_;have hn : R = (caS (spS h (chV h v s) onWr).1 ((spS h (chV h v s) onWr).2.1 ++ [v,w]),h) := by
       rw [hR];unfold setS chS;rw [if_neg (by rw [c1w];decide),if_neg (fun hh9 => c7w ⟨hh9.2.1,hh9.2.2.1⟩),if_neg (fun hh9 => c7w ⟨hh9.2.1,hh9.2.2⟩),if_pos ⟨c4w,c12w⟩]
      subst hn;exact wN
     ·have c12w : ¬ ((chO h v s).isSome = true ∧ (spS h (chV h v s) onWr).2.2 = true) := by
       rintro ⟨h8,h9⟩;have h7 : ((chO h v s).isSome && (spS h (chV h v s) onWr).2.2) = false := c12;rw [h8,h9] at h7
       cases h7
      refine zO ?_;have hj : R = chF h v s cnwB (setF h v s w) := by
       rw [hR];unfold setS chS;rw [if_neg (by rw [c1w];decide),if_neg (fun hh9 => c7w ⟨hh9.2.1,hh9.2.2.1⟩),if_neg (fun hh9 => c7w ⟨hh9.2.1,hh9.2.2⟩),if_neg (fun hh9 => c12w ⟨hh9.2.1,hh9.2.2⟩)]
      exact jZ ⟨(),hj⟩ ⟨yR,yM,rfl,rfl⟩
   ·have c4w : ¬ (zJ h v).kind = 10 := by simpa using c4
    refine zO ?_;have hj : R = chF h v s cnwB (setF h v s w) := by
     rw [hR];unfold setS chS;rw [if_neg (by rw [c1w];decide),if_neg (fun hh9 => c4w hh9.1),if_neg (fun hh9 => c4w hh9.1),if_neg (fun hh9 => c4w hh9.1)]
    exact jZ ⟨(),hj⟩ ⟨yR,yM,rfl,rfl⟩
  have hj := j.2;refine zB ?_;refine zB (zT zP [] [[],[0],[0,1],[],[],(rgN 5)] 1700 yP (by kernel_rfl) rfl ?_);refine zF ?_;refine yI _ (fixed_ok h v s g hvr) rfl rfl ?_;refine zF ?_;refine zC (zA (zS rfl (fun c14 => ?_) (fun c14 => ?_)))
  ·have c14w : fixS h v s = true := by simpa using c14
   refine zB (zE zP [] 1800 rfl ?_);repeat (first | refine zG ?_ | refine zH ?_ | refine jV0 ?_)
   refine zQ _ (yX _) rfl ?_;repeat (first | refine zG ?_ | refine zH ?_ | refine jV0 ?_)
   refine zC (zA (zL (zK ?_)));have hn : R = (raS 36 (atB ++ s ++ cnwB),h) := by
    rw [hj,chF,if_pos c14w]
   subst hn;exact wN
  ·have c14w : fixS h v s = false := by simpa using c14
   refine zO (zA ?_);refine zB (zE zP [] 1800 rfl ?_);refine zF ?_;refine zQ _ (gA (zJ h v).names s) rfl ?_;refine zF ?_;refine zC (zA (zB (zN 1900 ?_)));refine zS rfl (fun c17 => ?_) (fun c17 => ?_)
   ·have c17w : (ixI (zJ h v).names s) < 0 ∧ 200 ≤ (zJ h v).names.length := by
     have h9 : (ixI (zJ h v).names s) < 0 ∧ (((zJ h v).names.length : Nat) : Int) = 200 := by simpa using c17
     exact ⟨h9.1,by omega⟩
    refine zB (zE zP [] 2000 rfl ?_);refine zF ?_;refine zQ _ (cF 42 tooB) rfl ?_;refine zF ?_;refine zC (zA (zL (zK ?_)));have hn : R = (raS 42 tooB,h) := by
     rw [hj,chF,if_neg (by rw [c14w];decide),setF,if_pos c17w]
    subst hn;exact wN
   ·have c17w : ¬ ((ixI (zJ h v).names s) < 0 ∧ 200 ≤ (zJ h v).names.length) := by
     intro h9;have h8 : (((zJ h v).names.length : Nat) : Int) = 200 := by omega
     have h7 := c17;simp [h9.1,h8] at h7
    refine zO (zA ?_);refine zB (zT zP [1121,1124] [[],[0],[0,1],[],[3],(rgN 5),(rgN 6),(rgN 7)] 2000 yP (by kernel_rfl) rfl ?_);refine zF ?_;refine yS _ _ (jK0 (zJ h v).names (by omega)) rfl ?_;refine zF ?_;refine yS _ _ (yD0 (zJ h v).items (by omega)) rfl ?_;refine zF ?_;refine zC (zA ?_);refine yN [0,2,5,7,8,16] [2,3,4] 2010 [(17,.mo 1902 (zJ h v).names.length),(18,.mo 1905 (zJ h v).items.length)] [(0,.box 24 [.mo 1 h.length]),(1,.mrow 36 10 (.map h obD ob0)),(1902,.mrow 9 1 (.map (zJ h v).names sD ByteArray.empty)),(1905,.mrow 29 7 (.map (zJ h v).items vlD vl0))] ?_;refine ⟨⟨⟨Sub.mo rfl,Sub.mo rfl,yR⟩,⟨⟨rfl,Sub.mo rfl,rfl,trivial⟩,SubO.mp rfl,SubO.mr rfl,SubO.mr rfl,yM⟩,rfl,rfl⟩,?_⟩;refine dC (ι := Unit) [0,5,8] [0,1,2,4] 2500 (fun _ => [(17,.mo 1902 (jB (zJ h v) s w).names.length),(18,.mo 1905 (jB (zJ h v) s w).items.length)]) (fun _ => [(1902,.mrow 9 1 (.map (jB (zJ h v) s w).names sD ByteArray.empty)),(1905,.mrow 29 7 (.map (jB (zJ h v) s w).items vlD vl0))]) ?_;refine ⟨?_,fun _ => ?_⟩
    ·refine zN 2100 ?_;refine zS rfl (fun c20 => ?_) (fun c20 => ?_)
     ·have c20w : (ixI (zJ h v).names s) < 0 := by simpa using c20
      have hpn : (jB (zJ h v) s w).names = (zJ h v).names ++ [s] := by rw [jB,if_pos c20w]
      have hpi : (jB (zJ h v) s w).items = (zJ h v).items ++ [w] := by rw [jB,if_pos c20w]
      refine zT zP [] [[],[],[1],[0,1,2],[],[],[5],(rgN 7),(rgN 8),(rgN 9)] 2200 yP (by kernel_rfl) rfl ?_;repeat (first | refine zG ?_ | refine zH ?_ | refine zV (by first | rfl | (simp only [MR.len];done) | (simp only [MR.len,List.length_map];omega) | first | exact trivial | omega | exact ini (by omega) (by omega) | (intro hh;simp at hh;exact ini (by omega) (by omega)) | (intro hh;simp at hh ⊢;omega) | (simp at *;omega) | (simp_all;done)) ?_)
      refine zC ?_;exact jZ () ⟨⟨Sub.mo (by rw [hpn,List.length_append];rfl),Sub.mo (by rw [hpi,List.length_append];rfl),yR⟩,⟨SubO.mr (by rw [hpn];exact (List.map_append (f := sD) (l₁ := (zJ h v).names) (l₂ := [s])).symm),SubO.mr (by rw [hpi];exact (List.map_append (f := vlD) (l₁ := (zJ h v).items) (l₂ := [w])).symm),yM⟩,rfl,rfl⟩
     ·have c20w : ¬ (ixI (zJ h v).names s) < 0 := by simpa using c20
      have hkl := pP (zJ h v).names s;have hpn : (jB (zJ h v) s w).names = (zJ h v).names := by rw [jB,if_neg c20w]
      have hpi : (jB (zJ h v) s w).items = (zJ h v).items.set (ixI (zJ h v).names s).toNat w := by rw [jB,if_neg c20w]
      refine zE zP [] 2300 rfl ?_;repeat (first | refine zG ?_ | refine zH ?_ | refine zV (by first | exact ⟨by omega,by omega⟩ | exact ⟨by simp [MR.len],by simp [MR.len];omega⟩ | rfl | (simp only [MR.len];done) | first | exact trivial | omega | exact ini (by omega) (by omega) | (intro hh;simp at hh;exact ini (by omega) (by omega)) | (intro hh;simp at hh ⊢;omega) | (simp at *;omega) | (simp_all;done)) ?_)
      refine zC ?_;exact jZ () ⟨⟨Sub.mo (by rw [hpn]),Sub.mo (by rw [hpi,List.length_set]),yR⟩,⟨SubO.mr (by rw [hpn]),SubO.mr (by rw [hpi];exact (List.map_set (f := vlD)).symm),yM⟩,rfl,rfl⟩
    refine bM 1902 rfl (by repeat (first | exact trivial | exact rfl | exact (fun _ => rfl) | exact (fun h => absurd h (by decide)) | refine ⟨?_,?_⟩)) (by repeat (first | exact trivial | exact rfl | exact (fun _ => rfl) | exact (fun h => absurd h (by decide)) | refine ⟨?_,?_⟩)) ?_;refine bM 1905 rfl (by repeat (first | exact trivial | exact rfl | exact (fun _ => rfl) | exact (fun h => absurd h (by decide)) | refine ⟨?_,?_⟩)) (by repeat (first | exact trivial | exact rfl | exact (fun _ => rfl) | exact (fun h => absurd h (by decide)) | refine ⟨?_,?_⟩)) ?_;refine zB (zT zP [] [[],[0],[0,1],[0,1,2],[],[4],[],[6],[6,7],[6,7,8],[],[10],[],[],[0,1,2,3,4,5,6,7,8,9,12],[0,1,2,3,4,5,6,7,8,9,12,14],[0,1,2,3,4,5,6,7,8,9,12,14,15],(rgN 17),(rgN 18),(rgN 19)] 2600 yP (by kernel_rfl) rfl ?_);repeat (first | refine zG ?_ | refine zH ?_ | refine zV (by first | exact ⟨hwr.1,hwr.2⟩ | exact ⟨rfl,hwr.2⟩ | exact ⟨by simp [MR.len],by simpa [MR.len] using hwr.2⟩ | rfl | (simp only [MR.len];done) | first | exact trivial | omega | exact ini (by omega) (by omega) | (intro hh;simp at hh;exact ini (by omega) (by omega)) | (intro hh;simp at hh ⊢;omega) | (simp at *;omega) | (simp_all;done)) ?_)
    refine zC (zA ?_);refine yN [0,5,8] [2,4] 2610 [] [(0,.box 24 [.mo 1 (h.set v.r.toNat (jB (zJ h v) s w)).length]),(1,.mrow 36 10 (.map (h.set v.r.toNat (jB (zJ h v) s w)) obD ob0))] ?_;refine ⟨⟨yR,⟨⟨rfl,Sub.mo (by simp),rfl,trivial⟩,SubO.mp (upd2_ob (by rw [show h.getD v.r.toNat ob0 = zJ h v from hwe.symm];exact (ob_put _ _ _ _ _).trans (by rw [put_eq]))),yM⟩,rfl,rfl⟩,?_⟩;refine zB (zE zP [1159] 2700 rfl ?_);refine zF ?_;refine yS _ _ (changed_G (h.set v.r.toNat (jB (zJ h v) s w)) v (by rw [List.length_set];omega) (kB0 hwr) (by rw [kS hwr,gM0];exact hwt)) rfl ?_;refine zF ?_;refine zC (zA (zN 2800 ?_));refine zL ?_;have hn : R = (vlS vl0,h.set v.r.toNat (vC (jB (zJ h v) s w))) := by
     rw [hj,chF,if_neg (by rw [c14w];decide),setF,if_neg c17w]
    subst hn;exact FinH.ret 2 rfl rfl (Sub.ofP (SubP.agg (by repeat (first | exact trivial | exact SubP.refl _ | exact SubP.nilSl rfl | refine ⟨?_,?_⟩))) rfl rfl) ⟨⟨rfl,Sub.mo (by simp),rfl,trivial⟩,SubO.mp (by rw [kS hwr,List.set_set]),trivial⟩
namespace Gq
variable {md me : Bool}
structure Uh (h : List Ob) : Prop where
 lo : 49 ≤ h.length
 hi : h.length ≤ 100000
 kind : ∀ {n : Int},yD h n = true → 0 < (zW h n).kind ∧ (zW h n).kind < 21
 cls : ∀ {n : Int},inH h n → (zW h n).kind = 10 → inH h (zW h n).cls
 items : ∀ {n : Int},inH h n → ∀ {v : Vl},v ∈ (zW h n).items → v.k = 6 → yD h v.r = true
 ni : ∀ {n : Int},inH h n → (zW h n).names.length ≤ (zW h n).items.length
 ord : ∀ {n : Int},inH h n → ∀ r ∈ (zW h n).order,inH h r
 one : ∀ {n : Int},inH h n → (zW h n).kind = 13 ∨ (zW h n).kind = 14 → (zW h n).items.length = 1
 m8 : ∀ {n : Int},inH h n → (zW h n).kind = 8 → 0 < (zW h n).items.length ∧ uG h ((zW h n).items.getD 0 vl0) = true
 p12 : ∀ {n : Int},inH h n → (zW h n).kind = 12 → (zW h n).items.length = 3
 nm : ∀ {n : Int},inH h n → (zW h n).name.size ≤ 700
 gc : ∀ {n : Int},inH h n → ∀ x ∈ (zW h n).items,Gc h x
 su : ∀ {n : Int},inH h n → (zW h n).kind = 15 → (zW h n).items.length = 2 ∧ inH h (suC h (zW h n)) ∧ hasB (zW h (suC h (zW h n))).order ((zW h n).items.getD 0 vl0).r = true ∧ ((zJ h ((zW h n).items.getD 1 vl0)).kind = 10 ∨ (zJ h ((zW h n).items.getD 1 vl0)).kind = 9)
 c14 : ∀ {n : Int},inH h n → (zW h n).kind = 14 → uG h ((zW h n).items.getD 0 vl0) = true
 cl9 : ∀ {n : Int},inH h n → ∀ r ∈ (zW h n).order,(zW h r).kind = 9
 hd9 : ∀ {n : Int},inH h n → (zW h n).kind = 9 → 49 ≤ n → (zW h n).order.head? = some n
 wr : ∀ {n : Int},inH h n → ((zW h n).kind = 10 ∨ (zW h n).kind = 11) ∨ ((zW h n).kind = 9 ∧ 49 ≤ n) → 49 ≤ n.toNat ∧ (zW h n).names.length ≤ 200 ∧ (zW h n).items.length ≤ 1000 ∧ (zW h n).names.length = (zW h n).items.length ∧ 0 ≤ (zW h n).state ∧ (zW h n).state ≤ 1099511627776000
theorem nm_it {h : List Ob} (g : Uh h) {n : Int} (hn : inH h n) : (zW h n).names.length ≤ (zW h n).items.length := g.ni hn
theorem cok_of {h : List Ob} (hh : HpIn h) (g : Uh h) {c : Int} (hn : inH h c) : Cok h (zW h c).order := ⟨(hh.at c).ol,fun r hr => ⟨g.ord hn r hr,g.ni (g.ord hn r hr)⟩⟩
theorem one_item {h : List Ob} (g : Uh h) {n : Int} (hn : inH h n) (hk : (zW h n).kind = 13 ∨ (zW h n).kind = 14) : (zW h n).items.length = 1 := g.one hn hk
theorem meth_item {h : List Ob} (g : Uh h) {v : Vl} (hk : (zJ h v).kind = 8) : 0 < (zJ h v).items.length ∧ uG h ((zJ h v).items.getD 0 vl0) = true := by
 obtain ⟨_,ho,e⟩ := qA (h := h) (v := v) (by omega);rw [e] at hk ⊢;exact g.m8 (yB ho) hk
theorem prop_item {h : List Ob} (g : Uh h) {a : Vl} (hk : (zJ h a).kind = 12) : (zJ h a).items.length = 3 := by
 obtain ⟨_,ho,e⟩ := qA (h := h) (v := a) (by omega);rw [e] at hk ⊢;exact g.p12 (yB ho) hk
theorem gc_items {h : List Ob} (g : Uh h) (_hh : HpIn h) {n : Int} (hn : inH h n) : ∀ x ∈ (zW h n).items,Gc h x := g.gc hn
theorem nm_sz {h : List Ob} (g : Uh h) {n : Int} (hn : inH h n) : (zW h n).name.size ≤ 700 := g.nm hn
theorem su_links {h : List Ob} (g : Uh h) {v : Vl} (hk : (zJ h v).kind = 15) : (zJ h v).items.length = 2 ∧ inH h (suC h (zJ h v)) ∧ hasB (zW h (suC h (zJ h v))).order ((zJ h v).items.getD 0 vl0).r = true ∧ ((zJ h ((zJ h v).items.getD 1 vl0)).kind = 10 ∨ (zJ h ((zJ h v).items.getD 1 vl0)).kind = 9) := by
 obtain ⟨_,ho,e⟩ := qA (h := h) (v := v) (by omega);rw [e] at hk ⊢;exact g.su (yB ho) hk
structure Wr (h : List Ob) (v : Vl) : Prop where
 k6 : v.k = 6
 ob : yD h v.r = true
 inr : inH h v.r
 eo : zJ h v = zW h v.r
 hi : 49 ≤ v.r.toNat
 nl : (zJ h v).names.length ≤ 200
 il : (zJ h v).items.length ≤ 1000
 ni : (zJ h v).names.length = (zJ h v).items.length
 st : 0 ≤ (zJ h v).state ∧ (zJ h v).state ≤ 1099511627776000
theorem wr_of {h : List Ob} (g : Uh h) {v : Vl} (hw : wokS h v = true) : Wr h v := by
 unfold wokS at hw;simp only [Bool.or_eq_true,Bool.and_eq_true,decide_eq_true_eq,Bool.not_eq_true',decide_eq_false_iff_not] at hw;obtain ⟨h6,ho,e⟩ := qA (h := h) (v := v) (by omega);have hin := yB ho;rw [e] at hw;have hq := g.wr hin (hw.imp id fun h9 => ⟨h9.1,by omega⟩);exact ⟨h6,ho,hin,e,hq.1,by rw [e];exact hq.2.1,by rw [e];exact hq.2.2.1,by rw [e];exact hq.2.2.2.1,by rw [e];exact hq.2.2.2.2⟩
theorem cf_of {h : List Ob} {v : Vl} (g : Uh h) (hh : hasS h v = true) : Cf h v := by
 have hv : jK v = true := by
  simp only [hasS,Bool.and_eq_true] at hh;exact hh.1
 exact ⟨mZ0 hv,uC hh,fun hk => g.kind (uC hh hk),fun hk => g.cls (yB (uC hh hk))⟩
theorem ocS_in {h : List Ob} {o : Ob} (g : Uh h) (hk : 0 < o.kind ∧ o.kind < 21) (hc : o.kind = 10 → inH h o.cls) : inH h (ocS o) := by
 unfold ocS;split
 ·rename_i h1;exact hc h1
 ·have h3 := List.all_eq_true.1 (show (List.range 21).all (fun n => decide (0 ≤ ocL.getD n 0 ∧ ocL.getD n 0 < 49)) = true by decide +kernel) o.kind.toNat (List.mem_range.2 (by omega));have h4 := of_decide_eq_true h3;have := g.lo;exact ⟨h4.1,by omega⟩
theorem clA_in {h : List Ob} {v : Vl} (g : Uh h) (c : Cf h v) : inH h (clA h v) := by
 unfold clA;split
 ·rename_i h1;exact ocS_in g (c.kind h1) (c.cls h1)
 ·have h3 := List.all_eq_true.1 (show (List.range 9).all (fun n => decide (0 ≤ kcL.getD n 0 ∧ kcL.getD n 0 < 49)) = true by decide +kernel) v.k.toNat (List.mem_range.2 (by have := c.k;omega));have h4 := of_decide_eq_true h3;have := g.lo;exact ⟨h4.1,by omega⟩
theorem own_rv {h : List Ob} (g : Uh h) {n : Int} (hn : inH h n) (s : ByteArray) (hk : (jF (zW h n) s).k = 6) : yD h (jF (zW h n) s).r = true := by
 have hlt := pP (zW h n).names s;have hni := nm_it g hn;by_cases hi : ixI (zW h n).names s < 0
 ·rw [jF,if_pos hi] at hk;exact absurd hk (by decide)
 ·rw [jF,if_neg hi] at hk ⊢;have hj : (ixI (zW h n).names s).toNat < (zW h n).items.length := by omega
  rw [List.getD_eq_getElem?_getD,List.getElem?_eq_getElem hj] at hk ⊢;exact g.items hn (List.getElem_mem _) hk
theorem fd_rv {h : List Ob} (hh : HpIn h) (g : Uh h) {c : Int} (hn : inH h c) (s : ByteArray) (hk : (fdV h s (fdO h (zW h c).order s)).k = 6) : yD h (fdV h s (fdO h (zW h c).order s)).r = true := by
 cases hf : fdO h (zW h c).order s with
 | none => rw [hf] at hk;exact absurd hk (show ¬ (0 : Int) = 6 by decide)
 | some r =>
  rw [hf] at hk;exact own_rv g ((cok_of hh g hn).2 r (List.mem_of_find?_eq_some hf)).1 s hk
theorem obj_item {h : List Ob} (g : Uh h) {v : Vl} (hk : (zJ h v).kind = 13 ∨ (zJ h v).kind = 14) : 0 < (zJ h v).items.length := by
 have h1 := qA (h := h) (v := v) (by omega);rw [h1.2.2] at hk ⊢;rw [one_item g (yB h1.2.1) hk];decide
theorem inst_cls {h : List Ob} (g : Uh h) {v : Vl} (hk : (zJ h v).kind = 10) : inH h (zJ h v).cls := by
 have h1 := qA (h := h) (v := v) (by omega);rw [h1.2.2] at hk ⊢;exact g.cls (yB h1.2.1) hk
theorem named_is (h : List Ob) (g : Uh h) (v : Vl) : (qX h v).2 = ((decide (v.k = 7) || decide ((zJ h v).kind = 7)) || decide ((zJ h v).kind = 8)) := by
 unfold qX uR;by_cases c1 : v.k = 7
 ·rw [if_pos c1,decide_eq_true c1];rfl
 ·rw [if_neg c1,decide_eq_false c1];by_cases c2 : (zJ h v).kind = 7
  ·rw [if_pos c2,decide_eq_true c2];rfl
  ·rw [if_neg c2,decide_eq_false c2];by_cases c3 : (zJ h v).kind = 8
   ·rw [if_pos c3,decide_eq_true c3];have hc := (meth_item g c3).2;rw [uG,Bool.or_eq_true,decide_eq_true_eq,decide_eq_true_eq] at hc;show (uR h _ _).2 = true;rw [uR];rcases hc with hc | hc
    ·rw [if_pos hc]
    ·by_cases c4 : ((zJ h v).items.getD 0 vl0).k = 7
     ·rw [if_pos c4]
     ·rw [if_neg c4,if_pos hc]
   ·rw [if_neg c3,decide_eq_false c3];rfl
theorem obj_names {h : List Ob} (g : Uh h) (v : Vl) : (zJ h v).names.length ≤ (zJ h v).items.length := by
 by_cases h0 : (zJ h v).kind = 0
 ·by_cases hk : v.k = 6 ∧ yD h v.r = true
  ·rw [show zJ h v = zW h v.r from if_pos hk];exact nm_it g (yB hk.2)
  ·rw [show zJ h v = ob0 from if_neg hk];exact Nat.le_refl _
 ·have h1 := qA h0;rw [h1.2.2];exact nm_it g (yB h1.2.1)
theorem gc_obj {h : List Ob} (g : Uh h) (hh : HpIn h) (v : Vl) : ∀ x ∈ (zJ h v).items,Gc h x := fun x hx => by
 by_cases hk : v.k = 6 ∧ yD h v.r = true
 ·rw [show zJ h v = zW h v.r from if_pos hk] at hx;exact gc_items g hh (yB hk.2) x hx
 ·rw [show zJ h v = ob0 from if_neg hk] at hx
  cases hx
theorem gc_fd {h : List Ob} (g : Uh h) (hh : HpIn h) {L : List Int} (hL : ∀ r ∈ L,inH h r) (s : ByteArray) : Gc h (fdV h s (fdO h L s)) := by
 cases hf : fdO h L s with
 | none => exact gc_0 h
 | some r => exact pZ0 (gc_items g hh (hL r (List.mem_of_find?_eq_some hf))) s
theorem obj_sz {h : List Ob} (g : Uh h) (v : Vl) : (zJ h v).name.size ≤ 700 := by
 by_cases hk : v.k = 6 ∧ yD h v.r = true
 ·rw [show zJ h v = zW h v.r from if_pos hk];exact nm_sz g (yB hk.2)
 ·rw [show zJ h v = ob0 from if_neg hk];exact Nat.zero_le _
theorem aft_in {h : List Ob} (hh : HpIn h) (g : Uh h) {c : Int} (hc : inH h c) (n : Int) : Cok h (aftL (zW h c).order n) := by
 have hk := cok_of hh g hc;refine ⟨?_,fun r hr => hk.2 r (List.mem_of_mem_drop hr)⟩;have := hk.1;unfold aftL;rw [List.length_drop];omega
end Gq
end Go.Proofs.YtnajlcfdjjmfiaaGreatDoor
