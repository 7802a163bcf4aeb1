/- Part 29 of the proof. -/
import Derived.Test.YtbhndnphimmjjaaGreatDoorM28
namespace Go.Proofs.YtbhndnphimmjjaaGreatDoor
open Go.RowKit
variable {md me : Bool}
theorem tu_in {l : List Vl} (hl : l.length ≤ 2000000) (hv : ∀ v ∈ l,VlIn v) : ObIn (tuO l) :=
 ⟨(by decide : (-9223372036854775808 : Int) ≤ 1 ∧ (1 : Int) ≤ 9223372036854775807),(by decide : (-9223372036854775808 : Int) ≤ 0 ∧ (0 : Int) ≤ 9223372036854775807),(by decide : (-9223372036854775808 : Int) ≤ 0 ∧ (0 : Int) ≤ 9223372036854775807),(by decide : (-9223372036854775808 : Int) ≤ 0 ∧ (0 : Int) ≤ 9223372036854775807),(by decide : ByteArray.empty.size ≤ 2000000),(by decide : 0 ≤ 2000000),(by decide : 0 ≤ 2000000),(by decide : 0 ≤ 2000000),hl,(by decide : 0 ≤ 2000000),(fun _ h => by cases h),hv,(fun _ h => by cases h)⟩
theorem pQ0 {l : List Int} {n : Int} (h : hasB l n = true) : 0 ≤ ixI l n ∧ (ixI l n).toNat < l.length := by
 have h1 := bV l n;rw [h] at h1;have h2 := of_decide_eq_true h1;have h3 := yB0 l n;omega
theorem zA0 (l : List Int) (k : Nat) : (l.drop k).take (l.length - k) = l.drop k := List.take_of_length_le (by rw [List.length_drop];omega)
theorem tP0 {l : List Int} {n : Int} (h : hasB l n = true) : l.getD (ixI l n).toNat 0 = n := by
 have : ∀ {l : List Int},hasB l n = true → 0 ≤ ixI l n → l.getD (ixI l n).toNat 0 = n := by
  intro l;induction l with
  | nil => intro h;cases h
  | cons x l ih =>
   intro h h0;rw [ixI] at h0 ⊢;split
   ·rename_i e;exact e.symm
   ·rename_i e;rw [if_neg e] at h0;split at h0
    ·omega
    ·rename_i e2;rw [if_neg e2];have h5 : hasB l n = true := by rw [← bV,decide_eq_true (by omega)]
     have := ih h5 (by omega);rw [show (ixI l n + 1).toNat = (ixI l n).toNat + 1 by omega,List.getD_cons_succ];exact this
 exact this h (pQ0 h).1
theorem xV0 {l : List Int} {n : Int} {k : Nat} (hk : k < l.length) (hle : k ≤ (ixI l n).toNat) (h0 : 0 ≤ ixI l n) (e : l.getD k 0 = n) : k = (ixI l n).toNat := by
 induction l generalizing k with
 | nil => cases hk
 | cons x l ih =>
  rw [ixI] at hle h0 ⊢;by_cases hx : n = x
  ·rw [if_pos hx] at hle ⊢;omega
  ·rw [if_neg hx] at hle h0 ⊢
   cases k with
   | zero => rw [List.getD_cons_zero] at e;exact absurd e.symm hx
   | succ k =>
    rw [List.getD_cons_succ] at e;split at h0
    ·omega
    ·rename_i e2;rw [if_neg e2] at hle ⊢;have := ih (k := k) (by simpa using hk) (by omega) (by omega) e;omega
theorem yB1 {P : Program} {K : DS → Prop} {p : Prop} {r : Out} (hr : r.sat P K) (hp : p := by first | (simp only [List.length_map,List.length_take];omega) | first | exact trivial | omega | exact ini (by omega) (by omega) | (intro hh;simp at hh;exact ini (by omega) (by omega)) | (intro hh;simp at hh ⊢;omega) | (simp at *;omega) | (simp_all;done)) : (Out.need p r).sat P K := ⟨hp,hr⟩
theorem kE0 {P : Program} {K : DS → Prop} {p : Prop} {r : Out} (hr : r.sat P K) (hp : p := by first | (simp only [ByteArray.size_append,kbs,List.size_toArray,List.length_cons,List.length_nil];omega) | first | exact trivial | omega | exact ini (by omega) (by omega) | (intro hh;simp at hh;exact ini (by omega) (by omega)) | (intro hh;simp at hh ⊢;omega) | (simp at *;omega) | (simp_all;done)) : (Out.need p r).sat P K := ⟨hp,hr⟩
theorem yN0 {T : List (Nat × TI)} {rs : List ResultVar} {n0 : Nat} {out d : D} {own' : List DOwn} {S : DS} (hk : Nat.ble n0 2 = true := by rfl) (h : finH T S rs = some d := by rfl) (hs : Sub d (out.ren (qD (iota n0) 2)) := by exact Sub.ofP (SubP.agg (SubPs.refl _)) rfl rfl) (ho : gW (iota n0) 2 S.ow 0 own' := by exact ⟨⟨rfl,Sub.mo rfl,rfl,trivial⟩,SubO.mp rfl,trivial⟩) : FinH T rs n0 out own' .ret S := FinH.ret 2 hk h hs ho
theorem atGet_G (h : List Ob) (v : Vl) (s : ByteArray) (hh : HpIn h) (g : Uh h) (hk : (zR h v).kind = 9) (hs : s.size ≤ 100) : FnG Tryz.prog 31 [.bp 0 0,.v (.int .i64 v.r),.v (.string s)] (hpO h) (.agg (stD (clsS h v s).1)) (hpO (clsS h v s).2) := by
 have hg5 := g.hi;obtain ⟨R,hR⟩ : ∃ R,R = clsS h v s := ⟨_,rfl⟩;rw [← hR];obtain ⟨h6,hob,eo⟩ := jH (h := h) (v := v) (by omega);have hin := yQ hob;have hz := gZ;have hoz := dC g v;have hfind := kS (md := true) h v.r s hh hin (vP hh g hin);rw [← eo] at hfind;have hck := vP hh g hin;rw [← eo] at hck;have hol := hck.1;have hfr : (fdV h s (fdO h (zR h v).order s)).k = 6 → yW h (fdV h s (fdO h (zR h v).order s)).r = true := fun hk9 => by rw [eo] at hk9 ⊢;exact kO0 hh g hin s hk9
 have hfi := (tY g hh (L := (zR h v).order) (fun r hr => (hck.2 r hr).1) s).1.vin;have hrf : ∀ u ∈ (zR h v).order.map rfV,VlIn u := fun u hu => by
  obtain ⟨r,hr,rfl⟩ := List.mem_map.1 hu;exact (vP0 (hck.2 r hr).1 (by omega)).1.vin
 refine jE zM Tryz.func31 rfl rfl rfl rfl rfl rfl rfl ?_;intro w0 s0 mx;refine zL 100 ?_;refine zB (zE zM [] 200 rfl ?_);repeat (first | refine zG ?_ | refine zH ?_ | refine zU (by first | exact ⟨hin.1,hin.2⟩ | exact ⟨rfl,hin.2⟩ | exact ⟨by simp [MR.len],by simpa [MR.len] using hin.2⟩ | rfl | (simp only [MR.len];done) | first | exact trivial | omega | exact ini (by omega) (by omega) | (intro hh;simp at hh;exact ini (by omega) (by omega)) | (intro hh;simp at hh ⊢;omega) | (simp at *;omega) | (simp_all;done)) ?_)
 refine zC (zA (zB (zL 300 ?_)));refine zQ ?_;refine yK [0,1,2,6,7,21] [0,1,2,107] 310 [] [(107,.box 36 (obD (zR h v)))] ?_;refine ⟨⟨yH,⟨⟨rfl,by rw [eo];exact SubL.same rfl⟩,yG⟩,rfl,rfl⟩,?_⟩;refine zL 400 ?_;refine zS rfl (fun c3 => ?_) (fun c3 => ?_)
 ·have c3w : s = mF := of_decide_eq_true c3;refine zB (zE zM [] 500 rfl ?_);refine zF ?_;refine zT _ (uS _) rfl ?_;refine zF ?_;refine zT _ (qI _) rfl ?_;refine zF ?_;refine zC (zA (zJ (zN (zK ?_))));have hn : R = (vlS (txV (zR h v).name),h) := by
   rw [hR];unfold clsS;rw [if_pos c3w]
  subst hn;exact yN0
 ·have c3w : ¬ s = mF := of_decide_eq_false c3;refine zL 600 ?_;refine zS rfl (fun c5 => ?_) (fun c5 => ?_)
  ·have c5w : s = ordB := of_decide_eq_true c5;refine zL 700 ?_;refine qA 8 29 7 rfl ?_;refine zB (zL 800 ?_);refine zQ ?_;refine yC (ι := {k : Nat // k ≤ (zR h v).order.length}) [0,6,31,32] [0,1,2,107] 850 (fun x => [(33,.v (.int .i64 x.1)),(8,.own 700 7 ((((zR h v).order.take x.1).map rfV).map vlD))]) (fun x => [(700,.row 29 7 ((((zR h v).order.take x.1).map rfV).map vlD).length)]) (fun x => (zR h v).order.length - x.1) ⟨0,Nat.zero_le _⟩ ?_;refine ⟨⟨⟨Sub.int rfl,Sub.own rfl,yH⟩,⟨⟨rfl,rfl,rfl⟩,yG⟩,rfl,rfl⟩,fun x => ?_⟩;have hk1 : x.1 ≤ (zR h v).order.length := x.2;refine zL 900 ?_;refine zB (zS rfl (fun c8 => ?_) (fun c8 => ?_))
   ·have hlt : x.1 < (zR h v).order.length := by simpa using c8
    refine zO (zA (zB (zQ (zL 1000 ?_))));refine zE zM [] 1100 rfl ?_;repeat (first | refine zG ?_ | refine zH ?_ | refine yB1 ?_)
    refine zT _ (uC _) rfl ?_;repeat (first | refine zG ?_ | refine zH ?_ | refine yB1 ?_)
    refine zC (zP (zA (yT zM [] 1200 ?_)));exact zW ⟨x.1 + 1,by omega⟩ ⟨⟨Sub.int (by push_cast;rfl),Sub.own (by rw [qJ hlt 0,List.map_append,List.map_append];rfl),yH⟩,⟨⟨rfl,rfl,by rw [qJ hlt 0];simp⟩,yG⟩,rfl,rfl⟩ (by show (zR h v).order.length - (x.1 + 1) < (zR h v).order.length - x.1;omega)
   ·have hke : x.1 = (zR h v).order.length := by
     have h9 : ¬ x.1 < (zR h v).order.length := by simpa using c8
     omega
    refine yF (zZ (yB (zX (zA ?_))));refine zB (zE zM [1046] 1300 rfl ?_);refine zF ?_;refine yJ _ _ ((jO0 h (tuO ((zR h v).order.map rfV)) (by omega) (tu_in (by rw [List.length_map];omega) hrf)).args ⟨Sub.refl _,Sub.ofP (SubP.agg ⟨SubP.refl _,SubP.refl _,SubP.refl _,SubP.nilSl rfl,SubP.nilSl rfl,SubP.nilSl rfl,SubP.slrSl (by rw [hke,List.take_length];rfl),SubP.nilSl rfl,SubP.refl _,SubP.refl _,trivial⟩) rfl rfl,trivial⟩) rfl ?_;refine zF ?_;refine zT _ (uC _) rfl ?_;refine zF ?_;refine zT _ (qI _) rfl ?_;refine zF ?_;refine zC (zA (zJ (zN (zK ?_))));have hn : R = newS h (tuO ((zR h v).order.map rfV)) := by
     rw [hR];unfold clsS;rw [if_neg c3w,if_pos c5w]
    subst hn;exact yN0
  ·have c5w : ¬ s = ordB := of_decide_eq_false c5;refine zO (zP (zA (zB ?_)));refine zB (zE zM [] 1400 rfl ?_);refine zF ?_;refine yO _ (hfind) rfl rfl ?_;refine zF ?_;refine zC (zA (zL 1500 ?_));refine zS rfl (fun c14 => ?_) (fun c14 => ?_)
   ·have c14w : (fdO h (zR h v).order s).isSome = true := by simpa using c14
    refine zB (zE zM [1063] 1600 rfl ?_);refine zF ?_;refine yJ _ _ (qU0 h (fdV h s (fdO h (zR h v).order s)) v.r hh g hfr hfi hin) rfl ?_;refine zF ?_;refine zC (zA (zJ (zK ?_)));have hn : R = bdS h (fdV h s (fdO h (zR h v).order s)) vl0 v.r false := by
     rw [hR];unfold clsS;rw [if_neg c3w,if_neg c5w,if_pos c14w]
    subst hn;exact yN0
   ·have c14w : (fdO h (zR h v).order s).isSome = false := by simpa using c14
    refine zO (zA ?_);refine zB (zE zM [] 1700 rfl ?_);repeat (first | refine zG ?_ | refine zH ?_ | refine kE0 ?_)
    refine zT _ (uE _) rfl ?_;repeat (first | refine zG ?_ | refine zH ?_ | refine kE0 ?_)
    refine zC (zA (zJ ?_));have hn : R = (raS 36 (cqB ++ (zR h v).name ++ nhB ++ s ++ qB),h) := by
     rw [hR];unfold clsS;rw [if_neg c3w,if_neg c5w,if_neg (by rw [c14w];decide),lkS,whoS,if_pos hk]
    subst hn;exact yN0
theorem bd_any (h : List Ob) (a v w : Vl) (c : Int) : bdS h a v c false = bdS h a w c false := by unfold bdS;simp
theorem yA1 {P : Program} {K : DS → Prop} {p : Prop} {r : Out} (hr : r.sat P K) (hp : p := by first | exact ⟨by rw [← hCt];exact hsin.1,by rw [← hCt];exact hsin.2⟩ | exact ⟨hsin.1,hsin.2⟩ | exact ⟨rfl,hsin.2⟩ | exact ⟨by simp [MR.len],by simpa [MR.len] using hsin.2⟩ | rfl | (simp only [MR.len];done) | first | exact trivial | omega | exact ini (by omega) (by omega) | (intro hh;simp at hh;exact ini (by omega) (by omega)) | (intro hh;simp at hh ⊢;omega) | (simp at *;omega) | (simp_all;done)) : (Out.need p r).sat P K := ⟨hp,hr⟩
theorem kD0 {P : Program} {K : DS → Prop} {p : Prop} {r : Out} (hr : r.sat P K) (hp : p := by first | exact ⟨by decide,by rw [hl2];decide⟩ | exact ⟨rfl,by rw [hl2];decide⟩ | exact ini (by show _ ≤ ixI (yA h C).order ((zR h v).items.getD 0 vl0).r + 1;omega) (by show ixI (yA h C).order ((zR h v).items.getD 0 vl0).r + 1 ≤ _;omega) | first | exact trivial | omega | exact ini (by omega) (by omega) | (intro hh;simp at hh;exact ini (by omega) (by omega)) | (intro hh;simp at hh ⊢;omega) | (simp at *;omega) | (simp_all;done)) : (Out.need p r).sat P K := ⟨hp,hr⟩
set_option maxHeartbeats 2000000 in
theorem above_G (h : List Ob) (v : Vl) (s : ByteArray) (hh : HpIn h) (g : Uh h) (hk : (zR h v).kind = 15) (hs : s.size ≤ 100) : FnG Tryz.prog 35 [.bp 0 0,.agg (obD (zR h v)),.v (.string s)] (hpO h) (.agg (stD (upS h (zR h v) s).1)) (hpO (upS h (zR h v) s).2) := by
 have hg5 := g.hi;obtain ⟨R,hR⟩ : ∃ R,R = upS h (zR h v) s := ⟨_,rfl⟩;rw [← hR];obtain ⟨hl2,hsin,hsh,hs109⟩ := zO0 g hk;obtain ⟨h6,hob,eo⟩ := jH (h := h) (v := v) (by omega);have hin := yQ hob;have hz := gZ;have hwm : ((zR h v).items.getD 1 vl0) ∈ (zR h v).items := by
  rw [List.getD_eq_getElem?_getD,List.getElem?_eq_getElem (by omega)];exact List.getElem_mem _
 have hwr : ((zR h v).items.getD 1 vl0).k = 6 → yW h ((zR h v).items.getD 1 vl0).r = true := fun hk9 => g.items hin (by rw [← eo];exact hwm) hk9;have hwi := (vD (wH g hh v) 1).1.vin;obtain ⟨C,hC⟩ : ∃ C,C = suC h (zR h v) := ⟨_,rfl⟩;have hCe : suC h (zR h v) = if (zR h ((zR h v).items.getD 1 vl0)).kind = 10 then (zR h ((zR h v).items.getD 1 vl0)).cls else ((zR h v).items.getD 1 vl0).r := rfl;rw [← hC] at hsin hsh hCe;have hrg := pQ0 hsh;have hol := (hh.at C).ol;have hck := dX0 hh g hsin ((zR h v).items.getD 0 vl0).r;have hsa : suA h (zR h v) s = fdO h (aftL (yA h C).order ((zR h v).items.getD 0 vl0).r) s := by unfold suA;rw [← hC]
 obtain ⟨A,hA⟩ : ∃ A,A = fdV h s (suA h (zR h v) s) := ⟨_,rfl⟩;obtain ⟨S,hS⟩ : ∃ S,S = suA h (zR h v) s := ⟨_,rfl⟩;have har : A.k = 6 → yW h A.r = true := fun hk9 => by
  rw [hA,hsa] at hk9 ⊢
  cases hf : fdO h (aftL (yA h C).order ((zR h v).items.getD 0 vl0).r) s with
  | none => rw [hf] at hk9;exact absurd hk9 (show ¬ (0 : Int) = 6 by decide)
  | some r =>
   rw [hf] at hk9;exact pD0 g (hck.2 r (List.mem_of_find?_eq_some hf)).1 s hk9
 have hai : VlIn A := by rw [hA,hsa];exact (tY g hh (fun r hr => (hck.2 r hr).1) s).1.vin
 rw [← hS] at hA hsa;refine jE zM Tryz.func35 rfl rfl rfl rfl rfl rfl rfl ?_;intro w0 s0 mx;refine zL 100 ?_;refine zB (zE zM [] 200 rfl ?_);repeat (first | refine zG ?_ | refine zH ?_ | refine zU (by first | exact ⟨by decide,by rw [hl2];decide⟩ | exact ⟨rfl,by rw [hl2];decide⟩ | first | exact trivial | omega | exact ini (by omega) (by omega) | (intro hh;simp at hh;exact ini (by omega) (by omega)) | (intro hh;simp at hh ⊢;omega) | (simp at *;omega) | (simp_all;done)) ?_)
 refine zC (zA (zL 300 ?_));refine zB ?_;refine yK [0,2,4,6,7,8,9] [0,1,2,3,104] 310 [] [(104,.box 29 (vlD ((zR h v).items.getD 1 vl0)))] ?_;refine ⟨⟨yH,⟨⟨rfl,SubL.same rfl⟩,yG⟩,rfl,rfl⟩,?_⟩;refine zB (zV zM [] mK1 400 yR (by kernel_rfl) rfl ?_);refine zF ?_;refine yO _ (yZ h ((zR h v).items.getD 1 vl0) hwr) rfl rfl ?_;refine zF ?_;refine zC (zA (zL 500 ?_));refine zS rfl (fun c4 => ?_) (fun c4 => ?_)
 ·have c4w : (zR h ((zR h v).items.getD 1 vl0)).kind = 10 := by simpa using c4
  rw [if_pos c4w] at hCe;refine yT zM [] 600 ?_;refine zA ?_;refine yK [0,2,4,6,7,9] [0,1,2,3,104] 610 [(8,.v (.int .i64 C))] [(315,.box 36 (obD (zR h ((zR h v).items.getD 1 vl0))))] ?_;refine ⟨⟨⟨Sub.int hCe.symm,yH⟩,⟨⟨rfl,SubL.same rfl⟩,yG⟩,rfl,rfl⟩,?_⟩;refine zB (zE zM [] 700 rfl ?_);repeat (first | refine zG ?_ | refine zH ?_ | refine yA1 ?_)
  refine zC (zA ?_);refine zB (zV zM [] mK22 800 yR (by kernel_rfl) rfl ?_);repeat (first | refine zG ?_ | refine zH ?_ | refine kD0 ?_)
  refine zT _ (tQ (yA h C).order ((zR h v).items.getD 0 vl0).r) rfl ?_;repeat (first | refine zG ?_ | refine zH ?_ | refine kD0 ?_)
  refine yO _ ((xZ h (aftL (yA h C).order ((zR h v).items.getD 0 vl0).r) s hh hck).args ⟨SubP.refl _,SubP.of_eq (by show D.sl false 1 _ iD 0 = .sl false 1 _ iD 0;congr 1;unfold aftL;exact zA0 _ _),SubP.refl _,trivial⟩) rfl rfl ?_;repeat (first | refine zG ?_ | refine zH ?_ | refine kD0 ?_)
  refine zC (zA (zB ?_));refine yK [0,2,6,7,8,9,12] [0,1,3,104,719] 810 [(14,.v (.bool S.isSome))] [(719,.box 29 (vlD A))] ?_;refine ⟨⟨⟨Sub.bool (by rw [hsa]),yH⟩,⟨⟨rfl,by rw [hA,hsa];exact SubL.same rfl⟩,yG⟩,rfl,rfl⟩,?_⟩;refine zB (zV zM [] mK1 900 yR (by kernel_rfl) rfl ?_);refine zF ?_;refine yO _ (yZ h A har) rfl rfl ?_;refine zF ?_;refine zC (zA (zQ ?_));refine yK [0,2,6,7,8,9,12,14,15] [0,1,3,104,719,815] 910 [] [(815,.box 36 (obD (zR h A)))] ?_;refine ⟨⟨yH,⟨⟨rfl,SubL.same rfl⟩,yG⟩,rfl,rfl⟩,?_⟩;refine zL 1000 ?_;refine zS rfl (fun c9 => ?_) (fun c9 => ?_)
  ·have c9w : S.isSome = false := by simpa using c9
   refine zB (zE zM [] 1100 rfl ?_);repeat (first | refine zG ?_ | refine zH ?_ | refine kE0 ?_)
   refine zT _ (uE _) rfl ?_;repeat (first | refine zG ?_ | refine zH ?_ | refine kE0 ?_)
   refine zC (zA (zJ (zN (zK ?_))));have hn : R = (raS 36 (suB ++ s ++ qB),h) := by
    rw [hR];unfold upS;rw [← hS];rw [if_pos c9w]
   subst hn;exact yN0
  ·have c9w : S.isSome = true := by simpa using c9
   refine zL 1200 ?_;refine uW rfl ?_;refine zL 1400 ?_;refine zS rfl (fun c13 => ?_) (fun c13 => ?_)
   ·have c13w : (zR h A).kind = 12 := by simpa using c13
    refine zB (zE zM [] 1500 rfl ?_);refine zF ?_;refine zT _ (jP0 (zR h A) ((zR h v).items.getD 1 vl0) s (by rw [jT g c13w];decide) (by omega)) rfl ?_;refine zF ?_;refine zC (zA (zJ (zN (zK ?_))));have hn : R = (gtS (zR h A) ((zR h v).items.getD 1 vl0) s,h) := by
     rw [hR];unfold upS;rw [← hS];rw [← hA,← hC];rw [if_neg (by rw [c9w];decide),if_neg (not_not_intro c4w),if_pos c13w]
    subst hn;exact yN0
   ·have c13w : ¬ (zR h A).kind = 12 := by simpa using c13
    refine zO (zP (zA ?_));refine zB (zE zM [1090] 1600 rfl ?_);refine zF ?_;refine yJ _ _ (wG0 h A ((zR h v).items.getD 1 vl0) C hh g har hai hwi hsin) rfl ?_;refine zF ?_;refine zC (zA (zJ ?_));have hn : R = bdS h A ((zR h v).items.getD 1 vl0) C true := by
     rw [hR];unfold upS;rw [← hS];rw [← hA,← hC];rw [if_neg (by rw [c9w];decide),if_neg (not_not_intro c4w),if_neg c13w]
    subst hn;exact yN0
 ·have c4w : ¬ (zR h ((zR h v).items.getD 1 vl0)).kind = 10 := by simpa using c4
  rw [if_neg c4w] at hCe;refine zO (zA ?_);refine yK [0,2,4,6,7,9] [0,1,2,3,104] 510 [(8,.v (.int .i64 C))] [(315,.box 36 (obD (zR h ((zR h v).items.getD 1 vl0))))] ?_;refine ⟨⟨⟨Sub.int hCe.symm,yH⟩,⟨⟨rfl,SubL.same rfl⟩,yG⟩,rfl,rfl⟩,?_⟩;refine zB (zE zM [] 700 rfl ?_);repeat (first | refine zG ?_ | refine zH ?_ | refine yA1 ?_)
  refine zC (zA ?_);refine zB (zV zM [] mK22 800 yR (by kernel_rfl) rfl ?_);repeat (first | refine zG ?_ | refine zH ?_ | refine kD0 ?_)
  refine zT _ (tQ (yA h C).order ((zR h v).items.getD 0 vl0).r) rfl ?_;repeat (first | refine zG ?_ | refine zH ?_ | refine kD0 ?_)
  refine yO _ ((xZ h (aftL (yA h C).order ((zR h v).items.getD 0 vl0).r) s hh hck).args ⟨SubP.refl _,SubP.of_eq (by show D.sl false 1 _ iD 0 = .sl false 1 _ iD 0;congr 1;unfold aftL;exact zA0 _ _),SubP.refl _,trivial⟩) rfl rfl ?_;repeat (first | refine zG ?_ | refine zH ?_ | refine kD0 ?_)
  refine zC (zA (zB ?_));refine yK [0,2,6,7,8,9,12] [0,1,3,104,719] 810 [(14,.v (.bool S.isSome))] [(719,.box 29 (vlD A))] ?_;refine ⟨⟨⟨Sub.bool (by rw [hsa]),yH⟩,⟨⟨rfl,by rw [hA,hsa];exact SubL.same rfl⟩,yG⟩,rfl,rfl⟩,?_⟩;refine zB (zV zM [] mK1 900 yR (by kernel_rfl) rfl ?_);refine zF ?_;refine yO _ (yZ h A har) rfl rfl ?_;refine zF ?_;refine zC (zA (zQ ?_));refine yK [0,2,6,7,8,9,12,14,15] [0,1,3,104,719,815] 910 [] [(815,.box 36 (obD (zR h A)))] ?_;refine ⟨⟨yH,⟨⟨rfl,SubL.same rfl⟩,yG⟩,rfl,rfl⟩,?_⟩;refine zL 1000 ?_;refine zS rfl (fun c9 => ?_) (fun c9 => ?_)
  ·have c9w : S.isSome = false := by simpa using c9
   refine zB (zE zM [] 1100 rfl ?_);repeat (first | refine zG ?_ | refine zH ?_ | refine kE0 ?_)
   refine zT _ (uE _) rfl ?_;repeat (first | refine zG ?_ | refine zH ?_ | refine kE0 ?_)
   refine zC (zA (zJ (zN (zK ?_))));have hn : R = (raS 36 (suB ++ s ++ qB),h) := by
    rw [hR];unfold upS;rw [← hS];rw [if_pos c9w]
   subst hn;exact yN0
  ·have c9w : S.isSome = true := by simpa using c9
   refine zL 1200 ?_;refine dU rfl ?_;refine zB (zE zM [1077] 1300 rfl ?_);refine zF ?_
   refine yJ _ _ (by
     have h9 := qU0 h A C hh g har hai hsin;rw [bd_any h A vl0 ((zR h v).items.getD 1 vl0) C] at h9;exact h9) rfl ?_
   refine zF ?_;refine zC (zA (zJ (zN (zK ?_))));have hn : R = bdS h A ((zR h v).items.getD 1 vl0) C false := by
    rw [hR];unfold upS;rw [← hS];rw [← hA,← hC];rw [if_neg (by rw [c9w];decide),if_pos c4w]
   subst hn;exact yN0
end Go.Proofs.YtbhndnphimmjjaaGreatDoor
