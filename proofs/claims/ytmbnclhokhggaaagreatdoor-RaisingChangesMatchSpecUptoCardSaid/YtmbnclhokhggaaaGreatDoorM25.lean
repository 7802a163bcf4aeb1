/- Part 25 of the proof. -/
import Derived.Test.YtmbnclhokhggaaaGreatDoorM24
import Derived.Test.YtmbnclhokhggaaaGreatDoorRows
import Derived.Test.YtmbnclhokhggaaaGreatDoorM21
import Derived.ProofKit
import Derived.OpenShut
import Derived.ShutString
import Derived.Deep.Slices
import Derived.Test.YtmbnclhokhggaaaGreatDoorM13
import Derived.Deep.Matrix
import Derived.ChangeOld
import Derived.Below
import Derived.SizedLaws
namespace Go.Proofs.YtmbnclhokhggaaaGreatDoor
open Go.RowKit
variable {md me : Bool}
theorem rmap_q {l : List Vl} {k : Nat} (h : k < l.length) : (l.map Vl.r).getD (k : Int).toNat 0 = (l.getD (k : Int).toNat vl0).r := by
 rw [getD_l h,getD_l (by rw [List.length_map];exact h),List.getElem_map]
theorem IndexFuncR_ok (l : List Vl) (k : Vl) (f : FuncId) (H : ∀ x ∈ l,Fn Tryz.prog f [.agg (vlD x),vpD k] (.v (.bool (decide (x.r = k.r))))) : Fn Tryz.prog 67 [.sl me 7 l vlD vl0,.clo f [vpD k]] (.v (.int .i64 (ixI (l.map Vl.r) k.r))) := by
 refine yK tabT Tryz.func67 rfl rfl rfl rfl rfl rfl ?_;intro w0 s0 mx;refine ev_len 0 rfl fun hl0 => ?_;refine ev_R tabT [] 100 ?_;refine zB ?_;refine ev_R tabT [] 200 ?_;refine zL ?_;refine zX (ι := Nf (l.map Vl.r) k.r) [0,1,7] [] 250 (fun x => [(8,.v (.int .i64 x.k))]) (fun _ => []) (fun x => l.length - x.k) ⟨0,Nat.zero_le _,fun j hj => by omega⟩ ?_;refine ⟨⟨le_t,le_o,rfl,rfl⟩,fun x => ?_⟩;have hk : x.k ≤ l.length := by have := x.le;rw [List.length_map] at this;exact this
 refine ev_R tabT [] 300 ?_;refine zB ?_;refine zR rfl (fun c2 => ?_) (fun c2 => ?_)
 ·have c2 : x.k < l.length := by simpa using c2
  have c2m : x.k < (l.map Vl.r).length := by rw [List.length_map];exact c2
  refine zK (zA ?_);refine zB ?_;refine zL ?_;refine ev_R tabT [] 400 ?_;refine zB (zE tabT [] 500 rfl ?_);refine zF ?_;refine zV _ (H _ (by rw [getD_l c2];exact List.getElem_mem _)) rfl ?_;refine zF ?_;refine zC (zA ?_);refine zR rfl (fun c4 => ?_) (fun c4 => ?_)
  ·have c4 : (l.getD (x.k : Int).toNat vl0).r = k.r := by simpa using c4
   refine ev_R tabT [] 600 ?_;refine zO (zN (zM (yH (zN (zM ?_)))));exact FinV.ret rfl (SubP.int (x.found (e := 0) c2m (by rw [rmap_q c2];exact c4.symm)).symm)
  ·have c4 : ¬ (l.getD (x.k : Int).toNat vl0).r = k.r := by simpa using c4
   refine zK (zJ (zA ?_));refine ev_Q tabT [] 700 ?_;exact zP (x.next (e := 0) c2m (by rw [rmap_q c2];exact fun e => c4 e.symm)) ⟨le_t,le_o,rfl,rfl⟩ (by show l.length - (x.k + 1) < l.length - x.k;omega)
 ·have c2 : ¬ x.k < l.length := by simpa using c2
  refine yA (zU (zW (zS (zA ?_))));refine ev_R tabT [] 800 ?_;refine zO ?_;exact FinV.ret rfl (SubP.int (x.none (by rw [List.length_map];exact c2)).symm)
theorem ContainsFuncR_ok (l : List Vl) (k : Vl) (f : FuncId) (H : ∀ x ∈ l,Fn Tryz.prog f [.agg (vlD x),vpD k] (.v (.bool (decide (x.r = k.r))))) : Fn Tryz.prog 39 [.sl me 7 l vlD vl0,.clo f [vpD k]] (.v (.bool (hasB (l.map Vl.r) k.r))) := by
 refine yK tabT Tryz.func39 rfl rfl rfl rfl rfl rfl ?_;intro w0 s0 mx;refine ev_R tabT [] 100 ?_;refine zB (zE tabT [] 200 rfl ?_);refine zF ?_;refine zV _ (IndexFuncR_ok l k f H) rfl ?_;refine zF ?_;refine zC (zA (zO ?_));exact FinV.ret rfl (SubP.bool (ixI_mem _ _))
theorem chainC_ok (w k : Vl) : Fn Tryz.prog 40 [.agg (vlD w),vpD k] (.v (.bool (decide (w.r = k.r)))) := by
 refine yK tabT Tryz.func40 rfl rfl rfl rfl rfl rfl ?_;intro w0 s0 mx;refine ev_R tabT [] 100 ?_;refine ev_R tabT [] 200 ?_;refine zO ?_;exact FinV.ret rfl (SubP.refl _)
theorem Chain_ok (E : Int → Prop) (h : List Ob) (v : Vl) (hA : Xa E h) (hv : Xv E v) : Fn Tryz.prog 17 [hpD md h,.agg (vlD v)] (vsD (chnS h v)) := by
 have hlen := hA.len;refine yK tabT Tryz.func17 rfl rfl rfl rfl rfl rfl ?_;intro w0 s0 mx;refine ev_R tabT [] 100 ?_;refine ev_R tabT [] 200 ?_;refine yM 5 34 7 rfl ?_;refine zB ?_;refine ev_R tabT [] 300 ?_;refine zL ?_;refine zX (ι := Wk E (ledV h) h.length v) [2] [0] 350 (fun x => [(5,.own 200 7 (x.s.map vlD)),(6,.bp 202 0)]) (fun x => [(202,.box 34 (vlD x.x)),(200,.row 34 7 (x.s.map vlD).length)]) (fun x => h.length + 1 - x.s.length) (Wk.start h.length hv) ?_;refine ⟨⟨⟨Sub.own rfl,le_t⟩,⟨⟨rfl,SubL.same rfl⟩,⟨rfl,rfl,rfl⟩,le_o⟩,rfl,rfl⟩,fun x => ?_⟩;have hxl := x.le;refine zB ?_;refine zB (zE tabT [] 400 rfl ?_);refine zF ?_;refine sat_split (fun hs => ?_) (fun hs => ?_)
 ·refine zF ?_;refine sat_fnLG _ (fun hg6 => (ContainsFuncR_ok x.s x.x 40 fun y _ => chainC_ok y x.x).args ⟨SubP.slrSl (m := false) rfl,SubP.refl _,trivial⟩) rfl rfl ?_;refine zF ?_;refine zC (zA ?_);refine zR rfl (fun c3 => ?_) (fun c3 => ?_)
  ·have c3 : ¬ x.x.k = 0 ∧ hasB (x.s.map Vl.r) x.x.r = false := by simpa using c3
   have hk6 : x.x.k = 6 := (x.xE.resolve_left c3.1).1;have hxe : E x.x.r := (x.xE.resolve_left c3.1).2;have hx := hA.x _ hxe;have hx4 := hx.l4;have hxi := yN hx.ob;refine zK (zA ?_);refine zB ?_;refine zL ?_;refine zB (zE tabT [] 500 rfl ?_);repeat (first | refine zG ?_ | refine zH ?_ | refine zQ (by first | (simp only [List.length_map];have := x.le;omega) | first | exact trivial | omega | exact ini (by omega) (by omega) | (intro hh;simp at hh;exact ini (by omega) (by omega)) | (intro hh;simp at hh ⊢;omega) | (simp at *;omega) | (simp_all;done)) ?_)
   refine zC (zA ?_);refine zB (zE tabT [] 600 rfl ?_);refine zF ?_;refine zV _ (raisingGet_ok h x.x 1 hxi ⟨by decide,by show 1 < (obAt h x.x.r).items.length;omega⟩) rfl ?_;refine zF ?_;refine zC (zA ?_);refine zB ?_;refine ev_R tabT [] 700 ?_;refine zR rfl (fun c6 => ?_) (fun c6 => ?_)
   ·have c6w : ((obAt h x.x.r).items.getD 1 vl0).k = 0 := by simpa using c6
    refine zE tabT [] 800 rfl ?_;refine zF ?_;refine zV _ (raisingGet_ok h x.x 2 hxi ⟨by decide,by show 2 < (obAt h x.x.r).items.length;omega⟩) rfl ?_;refine zF ?_;refine zC (zA ?_);refine ev_Q tabT [] 900 ?_;refine zJ (zA ?_);refine ev_R tabT [] 1000 ?_;refine ev_renQ 202 1000 ?_;refine ev_Q tabT [] 1100 ?_;refine exRn_normal rfl ?_;have hl : ledV h x.x = (obAt h x.x.r).items.getD 2 vl0 := by
     unfold ledV;rw [if_pos c6w]
    exact zP (x.next hA.rng (fun y hy => hA.led hy) hk6 c3.2) ⟨⟨Sub.own (by show _ = (x.s ++ [x.x]).map vlD;rw [List.map_append];rfl),Sub.refl _,le_t⟩,⟨⟨rfl,by show SubL _ (vlD (ledV h x.x));rw [hl];exact SubL.same rfl⟩,⟨rfl,rfl,by show _ = ((x.s ++ [x.x]).map vlD).length;simp⟩,le_o⟩,rfl,rfl⟩ (by show h.length + 1 - (x.s ++ [x.x]).length < h.length + 1 - x.s.length;have := x.le;simp;omega)
   ·have c6w : ¬ ((obAt h x.x.r).items.getD 1 vl0).k = 0 := by simpa using c6
    refine zK (zA ?_);refine ev_Q tabT [] 900 ?_;refine zJ (zA ?_);refine ev_R tabT [] 1000 ?_;refine ev_renQ 202 1000 ?_;refine ev_Q tabT [] 1100 ?_;refine exRn_normal rfl ?_;have hl : ledV h x.x = (obAt h x.x.r).items.getD 1 vl0 := by
     unfold ledV;rw [if_neg c6w]
    exact zP (x.next hA.rng (fun y hy => hA.led hy) hk6 c3.2) ⟨⟨Sub.own (by show _ = (x.s ++ [x.x]).map vlD;rw [List.map_append];rfl),Sub.refl _,le_t⟩,⟨⟨rfl,by show SubL _ (vlD (ledV h x.x));rw [hl];exact SubL.same rfl⟩,⟨rfl,rfl,by show _ = ((x.s ++ [x.x]).map vlD).length;simp⟩,le_o⟩,rfl,rfl⟩ (by show h.length + 1 - (x.s ++ [x.x]).length < h.length + 1 - x.s.length;have := x.le;simp;omega)
  ·have c3 : ¬ (x.x.k = 6 ∧ hasB (x.s.map Vl.r) x.x.r = false) := by
    have c3 : ¬ x.x.k = 0 → hasB (x.s.map Vl.r) x.x.r = true := by simpa using c3
    rintro ⟨h1,h2⟩;rw [c3 (by omega)] at h2
    cases h2
   have hd : chnS h v = x.s := x.done c3;refine yA (zU (zW (zS (zA ?_))));refine ev_R tabT [] 1200 ?_;refine zO ?_;exact FinV.ret rfl (SubP.ownSl (by rw [hd]))
 ·refine zF ?_;refine yG (.v (.bool false)) (fun hg => absurd (hs.symm.trans hg) (by decide)) rfl ?_;refine zF ?_;refine zC (zA ?_);refine zR rfl (fun c3 => ?_) (fun c3 => ?_)
  ·
   simp_all
  ·have hd : chnS h v = x.s := x.done (fun hh => by have h9 := hh.1;simp at hs;omega);refine yA (zU (zW (zS (zA ?_))));refine ev_R tabT [] 1200 ?_;refine zO ?_;exact FinV.ret rfl (SubP.ownSl (by rw [hd]))
def unM (s : List Vl) : List (Int × D) := s.map fun y => (y.r,D.agg [])
theorem un_lk (s : List Vl) (n : Int) : (lkI n (unM s)).isSome = hasB (s.map Vl.r) n ∧ ∀ w sb v,((lkI n (unM s)).getD (.v (.agg #[]))).pv.p w sb v → (D.agg []).pv.p w sb v := by
 induction s with
 | nil => exact ⟨rfl,fun w sb v h => ⟨[],h,trivial⟩⟩
 | cons y s ih =>
  have e : lkI n (unM (y :: s)) = if y.r = n then some (D.agg []) else lkI n (unM s) := rfl;rw [e];by_cases h : y.r = n
  ·rw [if_pos h];refine ⟨?_,fun w sb v hv => hv⟩;rw [hasB_iff.2 (by rw [← h];exact List.mem_cons_self)];rfl
  ·rw [if_neg h];refine ⟨?_,ih.2⟩;rw [ih.1];show hasB (s.map Vl.r) n = (decide (n = y.r) || hasB (s.map Vl.r) n);rw [decide_eq_false (fun e => h e.symm)];rfl
theorem un_put : ∀ (s : List Vl) (x : Vl),hasB (s.map Vl.r) x.r = false → putI x.r (D.agg []) (unM s) = unM (s ++ [x])
 | [],_,_ => rfl
 | y :: s,x,h => by
  have h1 : ¬ y.r = x.r := fun e => by rw [hasB_iff.2 (by rw [← e];exact List.mem_cons_self)] at h;cases h
  have h2 : hasB (s.map Vl.r) x.r = false := hasB_no.2 fun hm => hasB_no.1 h (List.mem_cons_of_mem _ hm);show (if y.r = x.r then (x.r,D.agg []) :: unM s else (y.r,D.agg []) :: putI x.r (D.agg []) (unM s)) = (y.r,D.agg []) :: unM (s ++ [x]);rw [if_neg h1,un_put s x h2]
theorem Context_G (E : Int → Prop) (h : List Ob) (e v : Vl) (hA : Xa E h) (he : e.k = 6 ∧ E e.r) (hv : Xv E v) : FnG Tryz.prog 8 [.bp 0 0,.agg (vlD e),.agg (vlD v)] (hpO h) (.v (.tuple #[])) (hpO (notH h e v)) := by
 have hx0 := hA.x _ he.2;have hlen := hA.len;have hx4 := hx0.l4;have hxi := yN hx0.ob;obtain ⟨R,hR⟩ : ∃ R,R = notH h e v := ⟨_,rfl⟩;rw [← hR];refine qT tabT Tryz.func8 rfl rfl rfl rfl rfl rfl rfl ?_;intro w0 s0 mx;refine ev_R tabT [] 100 ?_;refine zB ?_;refine zB (zZ tabT [] [[],[0],[0,1],[],[0,1,2,3],[0,1,2,3,4],[0,1,2,3,4,5]] 200 mixT (by kernel_rfl) rfl ?_);refine zF ?_;refine sat_fnL _ (raisingGet_ok h e 2 hxi ⟨by decide,by show 2 < (obAt h e.r).items.length;omega⟩) rfl rfl ?_;refine zF ?_;refine zC (zA ?_);refine zR rfl (fun c1 => ?_) (fun c1 => ?_)
 ·have c1 : ¬ (conV h e).k = 0 := by simpa [conV] using c1
  refine zO (zM ?_);have hn : R = h := by
   rw [hR];exact if_neg (by unfold notC;rw [decide_eq_false c1];intro h9;cases h9)
  subst hn;exact FinH.ret 2 rfl rfl (Sub.refl _) ⟨⟨rfl,Sub.refl _,rfl,trivial⟩,SubO.mp rfl,trivial⟩
 ·have c1 : (conV h e).k = 0 := by simpa [conV] using c1
  refine zK (zA ?_);refine ev_R tabT [] 300 ?_;refine zB ?_;refine ev_R tabT [] 400 ?_;refine zL ?_;refine zX (ι := {x : Wk E (conV h) h.length v // hasB (x.s.map Vl.r) e.r = false}) [0,4,5,6] [0,1,2,3] 450 (fun x => [(7,.bp 301 0)]) (fun x => [(301,.box 34 (vlD x.1.x)),(200,.map (unM x.1.s))]) (fun x => h.length + 1 - x.1.s.length) ⟨Wk.start h.length hv,rfl⟩ ?_;refine ⟨⟨⟨Sub.refl _,le_t⟩,⟨⟨rfl,SubL.same rfl⟩,rfl,le_o⟩,rfl,rfl⟩,fun x => ?_⟩;have hxl := x.1.le;refine zB ?_;refine ev_R tabT [] 500 ?_;refine zR rfl (fun c4 => ?_) (fun c4 => ?_)
  ·have c4 : ¬ x.1.x.k = 0 := by simpa using c4
   have hk6 : x.1.x.k = 6 := (x.1.xE.resolve_left c4).1;have hxe : E x.1.x.r := (x.1.xE.resolve_left c4).2;have hy := hA.x _ hxe;have hy4 := hy.l4;have hyi := yN hy.ob;refine zK (zA ?_);refine zB ?_;refine zL ?_;refine zB ?_;refine ev_R tabT [] 700 ?_;refine zR rfl (fun c6 => ?_) (fun c6 => ?_)
   ·have c6 : x.1.x.r = e.r := by simpa using c6
    have hd : hasB ((ctxS h v).map Vl.r) e.r = true := by
     have := x.1.has hk6 (by rw [c6];exact x.2);rw [c6] at this;exact this
    refine zO (zM (zN (zM (yH (zN (zM ?_))))));have hn : R = h := by
     rw [hR];exact if_neg (by unfold notC;rw [hd];intro h9;simp at h9)
    subst hn;exact FinH.ret 2 rfl rfl (Sub.refl _) ⟨⟨rfl,Sub.refl _,rfl,trivial⟩,SubO.mp rfl,trivial⟩
   ·have c6 : ¬ x.1.x.r = e.r := by simpa using c6
    refine zK (zA ?_);refine zB ?_;refine zB (zE tabT [] 800 rfl ?_);refine zF ?_;refine sat_pick [.agg [],.v (.bool (hasB (x.1.s.map Vl.r) x.1.x.r))] ⟨(un_lk x.1.s x.1.x.r).2,(un_lk x.1.s x.1.x.r).1⟩ ?_;refine zF ?_;refine zC (zA ?_);refine ev_R tabT [] 900 ?_;refine zR rfl (fun c8 => ?_) (fun c8 => ?_)
    ·have c8 : hasB (x.1.s.map Vl.r) x.1.x.r = true := by simpa using c8
     have hd : ctxS h v = x.1.s := x.1.done (fun hh => by rw [c8] at hh;cases hh.2);refine yA (zU (exBl_other rfl (zU (zW (zS (zA ?_))))));refine zE tabT [1048] 1300 rfl ?_;refine zF ?_;refine yD _ _ (rSet_G h e 2 v (by omega) hxi ⟨by decide,by show 2 < (obAt h e.r).items.length;omega⟩ (by have := hx0.len;have := hx0.nl;omega)) rfl ?_;refine zF ?_;refine zC ?_;have hn : R = setH h e 2 v := by
      rw [hR];exact if_pos (by unfold notC;rw [hd,x.2,decide_eq_true c1];rfl)
     subst hn;exact FinH.normal 2 rfl rfl (Sub.refl _) ⟨⟨rfl,Sub.refl _,rfl,trivial⟩,SubO.mp rfl,trivial⟩
    ·have c8 : hasB (x.1.s.map Vl.r) x.1.x.r = false := by simpa using c8
     refine zK (zA ?_);refine ev_Q tabT [] 1000 ?_;refine zJ (zA ?_);refine zB ?_;refine ev_R tabT [] 1100 ?_;refine ev_Q tabT [] 1200 ?_;refine zA ?_;refine ev_ren 301 1100 rfl ?_;refine yJ [0,4,5,6] [0,1,2,3,200] 1210 [(7,.bp 301 0)] [(301,.box 34 (vlD x.1.x))] ?_;refine ⟨⟨⟨Sub.refl _,le_t⟩,⟨⟨rfl,SubL.same rfl⟩,le_o⟩,rfl,rfl⟩,?_⟩;refine zZ tabT [] [[],[0],[0,1],[],[0,1,2,3],[0,1,2,3,4]] 1300 mixT (by kernel_rfl) rfl ?_;refine zF ?_;refine sat_fnL _ (raisingGet_ok h x.1.x 2 hyi ⟨by decide,by show 2 < (obAt h x.1.x.r).items.length;omega⟩) rfl rfl ?_;refine zF ?_;refine zC ?_;have hE2 : hasB ((x.1.s ++ [x.1.x]).map Vl.r) e.r = false := by
      rw [List.map_append];refine hasB_no.2 fun hm => ?_;rcases List.mem_append.1 hm with h1 | h1
      ·exact hasB_no.1 x.2 h1
      ·exact c6 (List.mem_singleton.1 h1).symm
     exact zP (⟨x.1.next hA.rng (fun y hy => hA.con hy) hk6 c8,hE2⟩ : {x : Wk E (conV h) h.length v // hasB (x.s.map Vl.r) e.r = false}) ⟨⟨Sub.refl _,le_t⟩,⟨⟨rfl,SubL.same rfl⟩,congrArg (List.map fun x : Int × D => (x.1,x.2.pv)) (un_put x.1.s x.1.x c8),le_o⟩,rfl,rfl⟩ (by show h.length + 1 - (x.1.s ++ [x.1.x]).length < h.length + 1 - x.1.s.length;have := x.1.le;simp;omega)
  ·have c4 : x.1.x.k = 0 := by simpa using c4
   have hd : ctxS h v = x.1.s := x.1.done (fun hh => by have := hh.1;omega);refine yA (zU (zW (zS (zA ?_))));refine zE tabT [1048] 1300 rfl ?_;refine zF ?_;refine yD _ _ (rSet_G h e 2 v (by omega) hxi ⟨by decide,by show 2 < (obAt h e.r).items.length;omega⟩ (by have := hx0.len;have := hx0.nl;omega)) rfl ?_;refine zF ?_;refine zC ?_;have hn : R = setH h e 2 v := by
    rw [hR];exact if_pos (by unfold notC;rw [hd,x.2,decide_eq_true c1];rfl)
   subst hn;exact FinH.normal 2 rfl rfl (Sub.refl _) ⟨⟨rfl,Sub.refl _,rfl,trivial⟩,SubO.mp rfl,trivial⟩
variable {md me : Bool}
def mkR (h : List Ob) (e : Vl) (k : Nat) : List Vl := rfV (h.length : Nat) :: (mkL h e).take (min k 999)
theorem mkR_len {h : List Ob} {e : Vl} {k : Nat} (hk : k ≤ (mkL h e).length) : (mkR h e k).length = 1 + min k 999 := by
 unfold mkR;rw [List.length_cons,List.length_take];omega
theorem mkR_yes {h : List Ob} {e : Vl} {k : Nat} (hk : k < (mkL h e).length) (h9 : k < 999) : mkR h e (k + 1) = mkR h e k ++ [(mkL h e).getD ((k : Nat) : Int).toNat vl0] := by
 unfold mkR;rw [show min (k + 1) 999 = k + 1 by omega,show min k 999 = k by omega,qF hk vl0];rfl
theorem mkR_no {h : List Ob} {e : Vl} {k : Nat} (h9 : ¬ k < 999) : mkR h e (k + 1) = mkR h e k := by
 unfold mkR;rw [show min (k + 1) 999 = 999 by omega,show min k 999 = 999 by omega]
theorem Marked_G (E : Int → Prop) (h : List Ob) (e : Vl) (s : ByteArray) (n : Int) (hA : Xa E h) (he : e.k = 6 ∧ E e.r) (hs : s.size ≤ 2000000) (h1 : -9223372036854775808 ≤ n) (h2 : n ≤ 9223372036854775807) : FnG Tryz.prog 15 [.bp 0 0,.agg (vlD e),.v (.string s),.v (.int .i64 n)] (hpO h) (.v (.tuple #[])) (hpO (mkH h e s n)) := by
 have hx0 := hA.x _ he.2;have hlen := hA.len;have hi := yN hx0.ob;have e1 : (mkT h s n).length = h.length + 1 := by simp [mkT]
 have e2 : obAt (mkT h s n) e.r = obAt h e.r := obAt_app hi.2;have ho1 : qG (mkT h s n) e.r = true := isObj_app hx0.ob;have eo : objS (mkT h s n) e = obAt h e.r := (objS_at (fun _ => ho1) he.1).trans e2;have eg : g4S (mkT h s n) e traB = (obAt h e.r).items.getD 3 vl0 := by
  unfold g4S ownV;rw [eo,hx0.ix.2.2];rfl
 have e3 : (objS (mkT h s n) (g4S (mkT h s n) e traB)).items = mkL h e := by
  have ht1 : qG (mkT h s n) ((obAt h e.r).items.getD 3 vl0).r = true := isObj_app hx0.tr;rw [eg,objS_at (fun _ => ht1) hx0.tk];exact congrArg Ob.items (obAt_app (yN hx0.tr).2)
 have hL : (mkL h e).length ≤ 1000 := hx0.tl;have hnm : (objS (mkT h s n) e).names.length ≤ (objS (mkT h s n) e).items.length ∧ (objS (mkT h s n) e).names.length ≤ 2000000 := by
  rw [eo,hx0.len];have := hx0.nl;omega
 have e4 : obAt (mkA h e s n) e.r = obAt h e.r := (obAt_app (by have := hi.2;omega)).trans e2;refine qT tabT Tryz.func15 rfl rfl rfl rfl rfl rfl rfl ?_;intro w0 s0 mx;refine ev_R tabT [] 100 ?_;refine zB (zE tabT [1018,19] 200 rfl ?_);refine zF ?_;refine zV _ (T_ok _) rfl ?_;refine zF ?_;refine zV _ (N_ok _ (by first | assumption | omega | (simp_all;done)) (by first | assumption | omega | (simp_all;done))) rfl ?_;refine zF ?_;refine yD _ _ ((Make_G h (tpO [txV s,nuV n]) (by omega)).args ⟨Sub.refl _,Sub.ofP (SubP.agg ⟨SubP.refl _,SubP.refl _,SubP.refl _,SubP.nilSl rfl,SubP.nilSl rfl,SubP.nilSl rfl,SubP.slrSl rfl,SubP.nilSl rfl,SubP.refl _,SubP.refl _,trivial⟩) rfl rfl,trivial⟩) rfl ?_;refine zF ?_;refine zC (zA ?_);refine zB ?_;refine zB (zZ tabT [] [[],[0],[0,1],[],[0,1,2,3],[0,1,2,3,4],[]] 300 mixT (by kernel_rfl) rfl ?_);refine zF ?_;refine sat_fnL _ ((List4x_ok (mkT h s n) e traB hnm.1 hnm.2).out (SubP.of_eq (show vsD _ = vsD (mkL h e) by rw [e3]))) rfl rfl ?_;refine zF ?_;refine zC (zA (zL ?_));refine zX (ι := {k : Nat // k ≤ (mkL h e).length}) [0,5,24,25] [0,1,2] 350 (fun x => [(26,.v (.int .i64 x.1)),(8,.own 108 7 ((mkR h e x.1).map vlD))]) (fun x => [(108,.row 34 7 ((mkR h e x.1).map vlD).length)]) (fun x => (mkL h e).length - x.1) ⟨0,Nat.zero_le _⟩ ?_;refine ⟨⟨⟨Sub.int rfl,Sub.own rfl,le_t⟩,⟨⟨rfl,rfl,rfl⟩,le_o⟩,rfl,rfl⟩,fun x => ?_⟩;have hk : x.1 ≤ (mkL h e).length := x.2;refine ev_R tabT [] 400 ?_;refine zB ?_;refine zR rfl (fun c3 => ?_) (fun c3 => ?_)
 ·have c3 : x.1 < (mkL h e).length := by simpa using c3
  refine zK (zA ?_);refine zB ?_;refine zL ?_;refine ev_R tabT [] 500 ?_;refine ev_R tabT [] 600 ?_;refine zR rfl (fun c5 => ?_) (fun c5 => ?_)
  ·have c5w : x.1 < 999 := by
    have h9 : ((mkR h e x.1).length : Int) < 1000 := by simpa using c5
    rw [mkR_len hk] at h9;omega
   refine zE tabT [] 700 rfl ?_;repeat (first | refine zG ?_ | refine zH ?_ | refine zQ (by first | (rw [List.length_map,mkR_len hk];omega) | (simp only [List.length_map,mkR_len hk];omega) | first | exact trivial | omega | exact ini (by omega) (by omega) | (intro hh;simp at hh;exact ini (by omega) (by omega)) | (intro hh;simp at hh ⊢;omega) | (simp at *;omega) | (simp_all;done)) ?_)
   refine zC (zJ (zA ?_));refine ev_Q tabT [] 800 ?_;have hN := mkR_yes c3 c5w;exact zP ⟨x.1 + 1,by omega⟩ ⟨⟨Sub.int (by push_cast;rfl),Sub.own (by rw [hN,List.map_append];rfl),le_t⟩,⟨⟨rfl,rfl,by rw [hN];simp⟩,le_o⟩,rfl,rfl⟩ (by show (mkL h e).length - (x.1 + 1) < (mkL h e).length - x.1;omega)
  ·have c5w : ¬ x.1 < 999 := by
    have h9 : ¬ ((mkR h e x.1).length : Int) < 1000 := by simpa using c5
    rw [mkR_len hk] at h9;omega
   refine zK (zJ (zA ?_));refine ev_Q tabT [] 800 ?_;have hN := mkR_no (h := h) (e := e) c5w;exact zP ⟨x.1 + 1,by omega⟩ ⟨⟨Sub.int (by push_cast;rfl),Sub.own (by rw [hN]),le_t⟩,⟨⟨rfl,rfl,by rw [hN]⟩,le_o⟩,rfl,rfl⟩ (by show (mkL h e).length - (x.1 + 1) < (mkL h e).length - x.1;omega)
 ·have hke : x.1 = (mkL h e).length := by
   have h9 : ¬ x.1 < (mkL h e).length := by simpa using c3
   omega
  refine yA (zU (zW (zS (zA ?_))));refine zZ tabT [1043,1044] [[],[],[],[],[3],[2,3,4],[0,1,2,3,4,5]] 900 mixT (by kernel_rfl) rfl ?_;refine zF ?_;refine yD _ _ ((Make_G (mkT h s n) (tpO (mkR h e (mkL h e).length)) (by omega)).args ⟨Sub.refl _,Sub.ofP (SubP.agg ⟨SubP.refl _,SubP.refl _,SubP.refl _,SubP.nilSl rfl,SubP.nilSl rfl,SubP.nilSl rfl,SubP.slrSl (by rw [hke];rfl),SubP.nilSl rfl,SubP.refl _,SubP.refl _,trivial⟩) rfl rfl,trivial⟩) rfl ?_;refine zF ?_
  refine yD _ _ (by
    have h9 := set4_G (mkA h e s n) e traB (rfV ((mkT h s n).length : Nat)) (by simp [mkA];omega) ⟨he.1,isObj_app ho1⟩ (by rw [e4];have := hx0.nl;omega) (by rw [e4,hx0.ix.2.2];have := hx0.l4;omega) (by rw [e4,hx0.len];have := hx0.nl;omega);rw [e4,hx0.ix.2.2] at h9;exact h9) rfl ?_
  refine zF ?_;refine zC ?_;exact FinH.normal 2 rfl rfl (Sub.refl _) ⟨⟨rfl,Sub.refl _,rfl,trivial⟩,SubO.mp rfl,trivial⟩
def exE (h : List Ob) (n : Int) : Prop := excS h (rfV n) = true
theorem exc_ref {h : List Ob} {v : Vl} (hv : excS h v = true) : v.k = 6 ∧ exE h v.r := by
 unfold exE;unfold excS at hv ⊢;simp only [Bool.and_eq_true,decide_eq_true_eq] at hv;obtain ⟨h6,ho,e⟩ := objS_of (h := h) (v := v) (by omega);have e2 : objS h (rfV v.r) = objS h v := by
  rw [e];exact objS_at (v := rfV v.r) (fun _ => ho) rfl
 rw [e2];refine ⟨h6,?_⟩;simp only [Bool.and_eq_true,decide_eq_true_eq];exact hv
theorem exE_ob {h : List Ob} {n : Int} (hn : exE h n) : qG h n = true ∧ (obAt h n).kind = 10 ∧ qG h (obAt h n).cls = true ∧ hasB (obAt h (obAt h n).cls).order 28 = true := by
 unfold exE excS at hn;simp only [Bool.and_eq_true,decide_eq_true_eq] at hn;obtain ⟨_,ho,e⟩ := objS_of (h := h) (v := rfV n) (by omega);have e : objS h (rfV n) = obAt h n := e;rw [e] at hn;exact ⟨ho,hn.1.1,hn.1.2,hn.2⟩
theorem want_pre {o : Ob} {w : List ByteArray} (h : wantB o w = false) : ∃ t,o.names = w ++ t := by
 simp only [wantB,Bool.or_eq_false_iff,decide_eq_false_iff_not,Bool.not_eq_false',decide_eq_true_eq] at h;have h2 := h.2;rw [show Int.toNat 0 = 0 from rfl,List.drop_zero,Nat.sub_zero,Int.toNat_natCast] at h2;exact ⟨o.names.drop w.length,by conv => lhs;rw [← List.take_append_drop w.length o.names,h2]⟩
theorem excOk_facts {h : List Ob} {o : Ob} {i : Int} (hq : excOkS h o i = true) : (∃ t,o.names = exN ++ t) ∧ (midV o.items).all (cauP h) = true ∧ (objS h (o.items.getD 3 vl0)).kind = 1 ∧ (objS h (o.items.getD 3 vl0)).items.all (mkP h) = true := by
 unfold excOkS at hq;split at hq
 ·split at hq
  ·cases hq
  ·rename_i h1;split at hq
   ·cases hq
   ·rename_i h2;split at hq
    ·cases hq
    ·rename_i h3;split at hq
     ·cases hq
     ·rename_i h4;obtain ⟨t,ht⟩ := want_pre (by simpa using h1);refine ⟨⟨meB :: t,by rw [ht];rfl⟩,by simpa using h2,?_,by simpa using h4⟩;simp only [Bool.or_eq_true,Bool.not_eq_true',decide_eq_false_iff_not,not_or,Decidable.not_not] at h3;exact h3.2
 ·split at hq
  ·cases hq
  ·rename_i h1;split at hq
   ·cases hq
   ·rename_i h2;split at hq
    ·cases hq
    ·rename_i h3;split at hq
     ·cases hq
     ·rename_i h4;obtain ⟨t,ht⟩ := want_pre (by simpa using h1);refine ⟨⟨t,by rw [ht];rfl⟩,by simpa using h2,?_,by simpa using h4⟩;simp only [Bool.or_eq_true,Bool.not_eq_true',decide_eq_false_iff_not,not_or,Decidable.not_not] at h3;exact h3.2
theorem vok_ref {v : Vl} (h : vokS v = true) (hk : v.k = 6) : cV v = 60 := by
 unfold vokS at h;rw [if_neg (by omega),if_neg (by omega),if_neg (by omega),if_neg (by omega),if_neg (by omega),if_neg (by omega),if_neg (by omega),if_pos hk] at h;simp only [Bool.and_eq_true,zI,smI_iff,emS,decide_eq_true_eq] at h;unfold cV;rw [h.1.1.2,h.1.2.2,h.2];rfl
theorem no_keys {o : Ob} (hs : qO o = 0) (hk : o.kind = 10) : o.keys = [] := by
 unfold qO at hs;split at hs
 ·rename_i h1;have h2 := List.all_eq_true.1 h1 4 (by decide);have e : (lettersB.extract ((4 : Nat) : Int).toNat (((4 : Nat) : Int) + 1).toNat).data.toList = [107] := by decide +kernel
  have hc : Lib.contains (usedS o.kind).data.toList [107] = false := by rw [hk];decide +kernel
  unfold ltP at h2;rw [e,hc] at h2;have h3 : decide ((o.keys.length : Int) = 0) = true := by simpa [emptyS] using h2
  have := of_decide_eq_true h3;exact List.eq_nil_of_length_eq_zero (by omega)
 ·cases hs
theorem cO_items (o : Ob) (l : List Vl) : cO (itO o l) = cO (itO o []) + (cVs l - 1) := by
 have e1 : cO (itO o l) = 120 + 10 * o.name.size + (o.names.map fun s => s.size + 1).sum + 23 * o.refs.length + 23 * o.order.length + cVs o.keys + cVs l := rfl;have e2 : cO (itO o []) = 120 + 10 * o.name.size + (o.names.map fun s => s.size + 1).sum + 23 * o.refs.length + 23 * o.order.length + cVs o.keys + 1 := rfl;have : 1 ≤ cVs l := by unfold cVs;omega
 omega
theorem cVs_bd {b : Nat} : ∀ {l : List Vl},(∀ v ∈ l,cV v ≤ b) → cVs l ≤ b * l.length + 1
 | [],_ => Nat.le_refl _
 | v :: l,h => by
  have h1 := h v List.mem_cons_self;have h2 := cVs_bd (l := l) fun x hx => h x (List.mem_cons_of_mem _ hx);unfold cVs at h2 ⊢;rw [List.map_cons,List.sum_cons,List.length_cons,Nat.mul_succ];omega
theorem uh_xo {h : List Ob} (g : Uh h) (hh : HpIn h) {n : Int} (hn : exE h n) : Xo (exE h) h n := by
 obtain ⟨ho,hk,hc,hb⟩ := exE_ob hn;have hin := yN ho;have hnn : obAt h n = obAt h (n.toNat : Nat) := by rw [Int.toNat_of_nonneg hin.1]
 have h49 : 49 ≤ n.toNat := by
  rcases Nat.lt_or_ge n.toNat 49 with hl | hl
  ·rw [hnn,g.lo_at hl] at hk;exact absurd hk (by show ¬ (9 : Int) = 10;decide)
  ·exact hl
 have u := g.hi_at h49 hin.2;rw [← hnn] at u;have v := vs_of u.vals;have hl := u.links;unfold qI at hl;rw [hk] at hl;simp only [show ¬ (10 : Int) = 5 by decide,show ¬ (10 : Int) = 7 by decide,show ¬ (10 : Int) = 8 by decide,show ¬ (10 : Int) = 14 by decide,show ¬ (10 : Int) = 9 by decide,if_false,if_true,hb,Bool.not_true,Bool.false_or,Bool.and_eq_true] at hl;obtain ⟨f1,f2,f3,f4⟩ := excOk_facts hl.2;have hlen : (obAt h n).items.length = (obAt h n).names.length := by
  have h1 := (sh_of u.shape).1;rw [cnt10 hk] at h1;omega
 obtain ⟨t,ht⟩ := f1;have h4 : 4 ≤ (obAt h n).items.length := by
  rw [hlen,ht,List.length_append];show 4 ≤ 4 + t.length;omega
 have hsz := sizes_le u.sizes;obtain ⟨t6,tob,te⟩ := objS_of (h := h) (v := (obAt h n).items.getD 3 vl0) (by omega);have hmem : ∀ j,j < (obAt h n).items.length → (obAt h n).items.getD j vl0 ∈ (obAt h n).items := fun j hj => by
  rw [List.getD_eq_getElem?_getD,List.getElem?_eq_getElem hj];exact List.getElem_mem _
 have hC := uh_obC g hh (i := n.toNat) hin.2;rw [← hnn] at hC;have hmid : ∀ j,j = 1 ∨ j = 2 → (obAt h n).items.getD j vl0 ∈ midV (obAt h n).items := fun j hj => by
  have e : midV (obAt h n).items = ((obAt h n).items.drop 1).take 2 := rfl;rw [e,List.getD_eq_getElem?_getD,List.getElem?_eq_getElem (by omega)];refine List.mem_iff_getElem.2 ⟨j - 1,by rw [List.length_take,List.length_drop];omega,?_⟩;rw [List.getElem_take,List.getElem_drop];congr 1;omega
 have htin := yN tob;have htn : obAt h ((obAt h n).items.getD 3 vl0).r = obAt h (((obAt h n).items.getD 3 vl0).r.toNat : Nat) := by rw [Int.toNat_of_nonneg htin.1]
 rw [te] at f3 f4;have t49 : 49 ≤ ((obAt h n).items.getD 3 vl0).r.toNat := by
  rcases Nat.lt_or_ge ((obAt h n).items.getD 3 vl0).r.toNat 49 with hl | hl
  ·rw [htn,g.lo_at hl] at f3;exact absurd f3 (by show ¬ (9 : Int) = 1;decide)
  ·exact hl
 have ut := g.hi_at t49 htin.2;have hCt := uh_obC g hh (i := ((obAt h n).items.getD 3 vl0).r.toNat) htin.2;rw [← htn] at ut hCt;have vt := vs_of ut.vals;refine ⟨ho,hk,⟨t,ht⟩,hlen,hsz.1,?_,fun j hj => ?_,t6,tob,f3,(sizes_le ut.sizes).2.1,fun x hx => ⟨hCt.items x hx,?_⟩,fun x hx => ⟨hC.items x hx,?_⟩⟩
 ·have n1 := name_size u.shape u.sizes;have n2 := names_sum fun s hs => nameOk_size (nmF_ok u.names s hs);have n3 := order_le u.shape u.order;have e2 : cO (itO (obAt h n) []) = 120 + 10 * (obAt h n).name.size + ((obAt h n).names.map fun s => s.size + 1).sum + 23 * (obAt h n).refs.length + 23 * (obAt h n).order.length + cVs (obAt h n).keys + 1 := rfl;rw [e2,no_keys u.shape hk];show _ + 1 + 1 ≤ 40000;omega
 ·have h1 := List.all_eq_true.1 f2 _ (hmid j hj);unfold cauP at h1;generalize (obAt h n).items.getD j vl0 = x at h1 ⊢;by_cases h0 : x.k = 0
  ·exact .inl h0
  ·right;rw [decide_eq_false h0] at h1;exact exc_ref (by simpa using h1)
 ·have h1 := List.all_eq_true.1 f4 x hx;unfold mkP at h1;simp only [Bool.not_eq_true',Bool.or_eq_false_iff,Bool.not_eq_false',decide_eq_true_eq] at h1;obtain ⟨x6,_,_⟩ := objS_of (h := h) (v := x) (by omega);have hok := vt.ok x (List.mem_append.2 (.inr hx));have e : fixV (obAt h ((obAt h n).items.getD 3 vl0).r) x = x := by unfold fixV;rw [if_neg (by omega)]
  rw [e] at hok;rw [vok_ref hok x6];omega
 ·have hok := v.ok x (List.mem_append.2 (.inr hx));have e := fix_lim (obAt h n) x;have h1 := vok_cV hok;have h2 := (vok_lim hok).2.2;rw [e.1,e.2] at h1;rw [e.2] at h2;omega
theorem uh_xa {h : List Ob} (g : Uh h) (hh : HpIn h) : Xa (exE h) h := ⟨fun n hn => uh_xo g hh hn,hh.len⟩
theorem VlC.mono {N M : Nat} {v : Vl} (h : VlC N v) (hm : N ≤ M) : VlC M v := ⟨h.vin,fun hk => by have := h.r hk;omega⟩
theorem obAt_set {h : List Ob} {e : Vl} {k : Int} {v : Vl} (he : e.r.toNat < h.length) (n : Int) : obAt (setH h e k v) n = if n.toNat = e.r.toNat then { obAt h e.r with items := (obAt h e.r).items.set k.toNat v } else obAt h n := by
 show (h.set e.r.toNat _).getD n.toNat ob0 = _;rw [List.getD_eq_getElem?_getD,List.getElem?_set];by_cases hn : e.r.toNat = n.toNat
 ·rw [if_pos hn,if_pos he,if_pos hn.symm];rfl
 ·rw [if_neg hn,if_neg (fun e => hn e.symm)];show _ = h.getD n.toNat ob0;rw [List.getD_eq_getElem?_getD]
theorem isObj_set {h : List Ob} {e : Vl} {k : Int} {v : Vl} (he : e.r.toNat < h.length) (n : Int) : qG (setH h e k v) n = qG h n := by
 unfold qG;rw [setH_len];congr 1;have := obAt_set (k := k) (v := v) he n;have e1 : (setH h e k v).getD n.toNat ob0 = obAt (setH h e k v) n := rfl;have e2 : h.getD n.toNat ob0 = obAt h n := rfl;rw [e1,e2,this];split
 ·rename_i hn;have : obAt h n = obAt h e.r := by show h.getD n.toNat ob0 = h.getD e.r.toNat ob0;rw [hn]
  rw [this]
 ·rfl
theorem getD_set {l : List Vl} {k j : Nat} {v : Vl} (hk : k < l.length) : (l.set k v).getD j vl0 = if j = k then v else l.getD j vl0 := by
 rw [List.getD_eq_getElem?_getD,List.getElem?_set,List.getD_eq_getElem?_getD];by_cases h : k = j
 ·rw [if_pos h,if_pos hk,if_pos h.symm];rfl
 ·rw [if_neg h,if_neg (fun e => h e.symm)]
structure Tq (h : List Ob) (v : Vl) : Prop where
 k : v.k = 6
 ob : qG h v.r = true
 q : (obAt h v.r).kind = 1
 l : (obAt h v.r).items.length ≤ 1000
 v : ∀ w ∈ (obAt h v.r).items,VlC h.length w ∧ cV w ≤ 100
theorem Xa.set {E : Int → Prop} {h : List Ob} {e : Vl} {k : Int} {v : Vl} (hA : Xa E h) (he : E e.r) (hk : k = 1 ∨ k = 2 ∨ k = 3) (hv : VlC h.length v ∧ cV v ≤ 43000) (h12 : k ≠ 3 → Xv E v) (h3 : k = 3 → Tq h v) : Xa E (setH h e k v) := by
 have hxe := hA.x _ he;have hei := yN hxe.ob;have h4 := hxe.l4;have hkl : k.toNat < (obAt h e.r).items.length := by rcases hk with rfl | rfl | rfl <;> (show _ < _;omega)
 have tup : ∀ w : Vl,Tq h w → Tq (setH h e k v) w := fun w hw => by
  have hne : ¬ w.r.toNat = e.r.toNat := fun hq => by
   have h1 : obAt h w.r = obAt h e.r := by show h.getD w.r.toNat ob0 = h.getD e.r.toNat ob0;rw [hq]
   have h2 := hw.q;rw [h1,hxe.kind] at h2
   cases h2
  have e1 : obAt (setH h e k v) w.r = obAt h w.r := by rw [obAt_set hei.2,if_neg hne]
  exact ⟨hw.k,by rw [isObj_set hei.2];exact hw.ob,by rw [e1];exact hw.q,by rw [e1];exact hw.l,by rw [e1,setH_len];exact hw.v⟩
 have old : ∀ n,E n → Tq h ((obAt h n).items.getD 3 vl0) := fun n hn => by
  have x := hA.x n hn;exact ⟨x.tk,x.tr,x.tq,x.tl,x.tv⟩
 refine ⟨fun n hn => ?_,by rw [setH_len];exact hA.len⟩;have x := hA.x n hn;by_cases hq : n.toNat = e.r.toNat
 ·have e1 : obAt (setH h e k v) n = { obAt h e.r with items := (obAt h e.r).items.set k.toNat v } := by rw [obAt_set hei.2,if_pos hq]
  have ei : (obAt (setH h e k v) n).items = (obAt h e.r).items.set k.toNat v := by rw [e1]
  have en : (obAt (setH h e k v) n).names = (obAt h e.r).names := by rw [e1]
  have eg : ∀ j : Nat,(obAt (setH h e k v) n).items.getD j vl0 = if j = k.toNat then v else (obAt h e.r).items.getD j vl0 := fun j => by rw [ei,getD_set hkl]
  have ht : Tq (setH h e k v) ((obAt (setH h e k v) n).items.getD 3 vl0) := by
   rw [eg];split
   ·rename_i h9;exact tup _ (h3 (by omega))
   ·exact tup _ (old _ he)
  refine ⟨by rw [isObj_set hei.2];exact x.ob,by rw [e1];exact hxe.kind,by rw [en];exact hxe.names,by rw [ei,en,List.length_set];exact hxe.len,by rw [en];exact hxe.nl,by rw [e1];exact hxe.ba,fun j hj => ?_,ht.k,ht.ob,ht.q,ht.l,ht.v,fun w hw => ?_⟩
  ·rw [eg];split
   ·rename_i h9;exact h12 (by omega)
   ·exact hxe.cau j hj
  ·rw [ei] at hw;rw [setH_len];rcases List.mem_or_eq_of_mem_set hw with h9 | rfl
   ·exact hxe.iv w h9
   ·exact hv
 ·have e1 : obAt (setH h e k v) n = obAt h n := by rw [obAt_set hei.2,if_neg hq]
  have ht := tup _ (old n hn);rw [← e1] at ht;exact ⟨by rw [isObj_set hei.2];exact x.ob,by rw [e1];exact x.kind,by rw [e1];exact x.names,by rw [e1];exact x.len,by rw [e1];exact x.nl,by rw [e1];exact x.ba,by rw [e1];exact x.cau,ht.k,ht.ob,ht.q,ht.l,ht.v,by rw [e1,setH_len];exact x.iv⟩
theorem Tq.app {h : List Ob} {v : Vl} (t : Tq h v) (o : Ob) : Tq (h ++ [o]) v := by
 have e : obAt (h ++ [o]) v.r = obAt h v.r := obAt_app (yN t.ob).2;exact ⟨t.k,isObj_app t.ob,by rw [e];exact t.q,by rw [e];exact t.l,by rw [e,List.length_append];exact fun w hw => ⟨(t.v w hw).1.mono (Nat.le_add_right _ _),(t.v w hw).2⟩⟩
theorem Xa.app {E : Int → Prop} {h : List Ob} (hA : Xa E h) (o : Ob) (hl : h.length + 1 ≤ 2000000) : Xa E (h ++ [o]) := by
 refine ⟨fun n hn => ?_,by rw [List.length_append];exact hl⟩;have x := hA.x n hn;have e : obAt (h ++ [o]) n = obAt h n := obAt_app (yN x.ob).2;have t : Tq (h ++ [o]) ((obAt h n).items.getD 3 vl0) := Tq.app ⟨x.tk,x.tr,x.tq,x.tl,x.tv⟩ o;rw [← e] at t;exact ⟨isObj_app x.ob,by rw [e];exact x.kind,by rw [e];exact x.names,by rw [e];exact x.len,by rw [e];exact x.nl,by rw [e];exact x.ba,by rw [e];exact x.cau,t.k,t.ob,t.q,t.l,t.v,by rw [e,List.length_append];exact fun w hw => ⟨(x.iv w hw).1.mono (Nat.le_add_right _ _),(x.iv w hw).2⟩⟩
theorem tq_new {h : List Ob} {l : List Vl} (hl : l.length ≤ 1000) (hv : ∀ w ∈ l,VlC (h.length + 1) w ∧ cV w ≤ 100) : Tq (h ++ [tpO l]) (rfV (h.length : Nat)) := by
 have e : obAt (h ++ [tpO l]) (rfV (h.length : Nat)).r = tpO l := by
  show (h ++ [tpO l]).getD ((h.length : Nat) : Int).toNat ob0 = tpO l;rw [Int.toNat_natCast,List.getD_eq_getElem?_getD,List.getElem?_append_right (Nat.le_refl _),Nat.sub_self];rfl
 refine ⟨rfl,?_,by rw [e];rfl,by rw [e];exact hl,by rw [e,List.length_append];exact hv⟩;unfold qG;have e2 : (h ++ [tpO l]).getD (rfV (h.length : Nat)).r.toNat ob0 = tpO l := e;rw [e2,List.length_append,List.length_singleton];show ((decide (0 ≤ ((h.length : Nat) : Int)) && decide (((h.length : Nat) : Int) < ((h.length + 1 : Nat) : Int))) && !decide ((1 : Int) = 0)) = true;rw [decide_eq_true (by omega),decide_eq_true (by omega)];rfl
theorem tp_C {N : Nat} {l : List Vl} (hl : l.length ≤ 2000000) (hv : ∀ w ∈ l,VlC N w) : ObC N (tpO l) :=
 ⟨tp_in hl fun w hw => (hv w hw).vin,fun hk => absurd hk (by show ¬ (1 : Int) = 18;decide),fun hk => absurd hk (by show ¬ ((1 : Int) = 10 ∨ (1 : Int) = 7);decide),(fun _ h => by cases h),(fun _ h => by cases h),(fun _ h => by cases h),hv⟩
theorem ObC.mono {N M : Nat} {o : Ob} (h : ObC N o) (hm : N ≤ M) : ObC M o :=
 ⟨h.oin,fun hk => by have := h.st hk;omega,fun hk => by have := h.cls hk;omega,fun n hn => by have := h.refs n hn;omega,fun n hn => by have := h.order n hn;omega,fun v hv => (h.keys v hv).mono hm,fun v hv => (h.items v hv).mono hm⟩
def coN (k : Nat) : Nat := 80000000 + 9000000 * k
theorem coN_succ (k : Nat) : coN (k + 1) = coN k + 9000000 := by
 unfold coN;rw [Nat.mul_add,Nat.mul_one,Nat.add_assoc]
structure Iv (E : Int → Prop) (h : List Ob) (n0 k : Nat) : Prop where
 xa : Xa E h
 hc : HpC h
 lo : n0 ≤ h.length
 hi : h.length ≤ n0 + 2 * k
 co : cH h ≤ coN k
theorem Iv.app {E : Int → Prop} {h : List Ob} {n0 k : Nat} (x : Iv E h n0 k) {l : List Vl} (hl : l.length ≤ 1000) (hn : h.length + 1 ≤ 2000000) (hv : ∀ w ∈ l,VlC (h.length + 1) w ∧ cV w ≤ 100) :
  Xa E (h ++ [tpO l]) ∧ HpC (h ++ [tpO l]) ∧ cH (h ++ [tpO l]) ≤ cH h + 101000 := by
 refine ⟨x.xa.app _ hn,fun o ho => ?_,?_⟩
 ·rw [List.length_append];rcases List.mem_append.1 ho with h1 | h1
  ·exact (x.hc o h1).mono (Nat.le_add_right _ _)
  ·rw [List.mem_singleton.1 h1];exact tp_C (by omega) fun w hw => (hv w hw).1
 ·rw [cH_app];have h1 := cVs_bd (b := 100) fun w hw => (hv w hw).2;have e : cO (tpO l) = 120 + 10 * 0 + 0 + 23 * 0 + 23 * 0 + 1 + cVs l := rfl;omega
theorem Iv.set {E : Int → Prop} {h : List Ob} {e : Vl} {k : Int} {v : Vl} (hA : Xa E h) (hc : HpC h) (he : E e.r) (hk : k = 1 ∨ k = 2 ∨ k = 3) (hv : VlC h.length v ∧ cV v ≤ 43000) (h12 : k ≠ 3 → Xv E v) (h3 : k = 3 → Tq h v) :
  Xa E (setH h e k v) ∧ HpC (setH h e k v) ∧ cH (setH h e k v) ≤ cH h + 8700000 := by
 have x := hA.x _ he;have hin := yN x.ob;have hl4 := x.len;have hnl := x.nl;have hall : ∀ w ∈ (obAt h e.r).items.set k.toNat v,VlC h.length w ∧ cV w ≤ 43000 := fun w hw => by
  rcases List.mem_or_eq_of_mem_set hw with h9 | rfl
  ·exact x.iv w h9
  ·exact hv
 have ho : ObC h.length (obAt h e.r) := hc.at hin.2;have hl : ((obAt h e.r).items.set k.toNat v).length = (obAt h e.r).items.length := List.length_set;refine ⟨hA.set he hk hv h12 h3,hpC_set hc ⟨⟨ho.oin.kd,ho.oin.cl,ho.oin.co,ho.oin.st,ho.oin.nm,ho.oin.rl,ho.oin.ol,ho.oin.nl,by show ((obAt h e.r).items.set k.toNat v).length ≤ 2000000;rw [hl];omega,ho.oin.kl,ho.oin.ns,fun w hw => (hall w hw).1.vin,ho.oin.kv⟩,ho.st,ho.cls,ho.refs,ho.order,ho.keys,fun w hw => (hall w hw).1⟩,?_⟩;have h0 : cH (setH h e k v) ≤ cH h + cO (itO (obAt h e.r) ((obAt h e.r).items.set k.toNat v)) := cH_set h _ _;have h1 := cVs_bd (b := 43000) fun w hw => (hall w hw).2;have h2 := cO_items (obAt h e.r) ((obAt h e.r).items.set k.toNat v);have h5 := x.ba;have h6 : 43000 * ((obAt h e.r).items.set k.toNat v).length ≤ 43000 * 200 := Nat.mul_le_mul_left _ (by rw [hl];omega);omega
theorem Iv.not {E : Int → Prop} {h : List Ob} {n0 k : Nat} (x : Iv E h n0 k) {e v : Vl} (he : E e.r) (hv : VlC h.length v ∧ cV v ≤ 43000) (hx : Xv E v) : Iv E (notH h e v) n0 (k + 1) := by
 have h1 := x.hi;have h2 := x.co;have h8 := coN_succ k;unfold notH;split
 ·obtain ⟨a,b,c⟩ := Iv.set (k := 2) x.xa x.hc he (by omega) hv (fun _ => hx) (fun h => absurd h (by decide));exact ⟨a,b,by rw [setH_len];exact x.lo,by rw [setH_len];omega,by omega⟩
 ·exact ⟨x.xa,x.hc,x.lo,by omega,by omega⟩
theorem Iv.cau {E : Int → Prop} {h : List Ob} {n0 k : Nat} (x : Iv E h n0 k) {e v : Vl} (he : E e.r) (hv : VlC h.length v ∧ cV v ≤ 43000) (hx : Xv E v) : Iv E (setH h e 1 v) n0 (k + 1) := by
 have h1 := x.hi;have h2 := x.co;have h8 := coN_succ k;obtain ⟨a,b,c⟩ := Iv.set (k := 1) x.xa x.hc he (by omega) hv (fun _ => hx) (fun h => absurd h (by decide));exact ⟨a,b,by rw [setH_len];exact x.lo,by rw [setH_len];omega,by omega⟩
theorem rf_C {n N : Nat} (hn : n ≤ 5000000) (h : n < N) : VlC N (rfV (n : Nat)) ∧ cV (rfV (n : Nat)) = 60 := ⟨⟨rf_in hn,fun _ => by show ((n : Nat) : Int) < N;omega⟩,rfl⟩
theorem Iv.bla {E : Int → Prop} {h : List Ob} {n0 k : Nat} (x : Iv E h n0 k) (hn : n0 + 2 * k + 2 ≤ 2000000) {e : Vl} (he : E e.r) : Iv E (setH (h ++ [tpO []]) e 3 (rfV (h.length : Nat))) n0 (k + 1) := by
 have h1 := x.hi;have h2 := x.co;have h8 := coN_succ k;have h3 := x.lo;obtain ⟨a,b,c⟩ := x.app (l := []) (by decide) (by omega) (fun _ h => by cases h);have hr := rf_C (n := h.length) (N := (h ++ [tpO []]).length) (by omega) (by simp);obtain ⟨a2,b2,c2⟩ := Iv.set (e := e) (k := 3) (v := rfV (h.length : Nat)) a b he (by omega) ⟨hr.1,by rw [hr.2];omega⟩ (fun h => absurd rfl h) (fun _ => tq_new (by decide) (fun _ h => by cases h));exact ⟨a2,b2,by rw [setH_len,List.length_append];omega,by rw [setH_len,List.length_append,List.length_singleton];omega,by omega⟩
theorem Iv.mar {E : Int → Prop} {h : List Ob} {n0 k : Nat} (x : Iv E h n0 k) (hn : n0 + 2 * k + 2 ≤ 2000000) {e : Vl} (he : E e.r) {s : ByteArray} {n : Int} (hs : s.size ≤ 1) (hn1 : -9223372036854775808 ≤ n) (hn2 : n ≤ 9223372036854775807) : Iv E (mkH h e s n) n0 (k + 1) := by
 have h1 := x.hi;have h2 := x.co;have h8 := coN_succ k;have h3 := x.lo;have xe := x.xa.x _ he;have htx : cV (txV s) ≤ 70 := by
  have e1 : cV (txV s) = 60 + 10 * s.size + 8 * 0 + 8 * 0 := rfl;omega
 obtain ⟨a,b,c⟩ := x.app (l := [txV s,nuV n]) (by show 2 ≤ 1000;omega) (by omega) (fun w hw => by
  simp only [List.mem_cons,List.not_mem_nil,or_false] at hw;rcases hw with rfl | rfl
  ·exact ⟨⟨tx_in (by omega),fun hk => absurd hk (by show ¬ (4 : Int) = 6;decide)⟩,by omega⟩
  ·exact ⟨nuV_C hn1 hn2,by have := nuV_cV hn1 hn2;omega⟩)
 have lT : (mkT h s n).length = h.length + 1 := by simp [mkT]
 have x2 : Iv E (mkT h s n) n0 (k + 1) := ⟨a,b,by omega,by omega,by have : cH (mkT h s n) ≤ cH h + 101000 := c;omega⟩;have hL : (mkL h e).length ≤ 1000 := xe.tl;have hLv : ∀ w ∈ mkL h e,VlC h.length w ∧ cV w ≤ 100 := xe.tv;have hall : ∀ w ∈ rfV (h.length : Nat) :: (mkL h e).take (min (mkL h e).length 999),VlC ((mkT h s n).length + 1) w ∧ cV w ≤ 100 := fun w hw => by
  rcases List.mem_cons.1 hw with rfl | h9
  ·have := rf_C (n := h.length) (N := (mkT h s n).length + 1) (by omega) (by omega);exact ⟨this.1,by rw [this.2];omega⟩
  ·have := hLv w (List.mem_of_mem_take h9);exact ⟨this.1.mono (by omega),this.2⟩
 have hle : (rfV (h.length : Nat) :: (mkL h e).take (min (mkL h e).length 999)).length ≤ 1000 := by rw [List.length_cons,List.length_take];omega
 obtain ⟨a2,b2,c2⟩ := x2.app hle (by omega) hall;have lA : (mkA h e s n).length = h.length + 2 := by simp [mkA,lT]
 have hr := rf_C (n := (mkT h s n).length) (N := (mkA h e s n).length) (by omega) (by omega);obtain ⟨a3,b3,c3⟩ := Iv.set (h := mkA h e s n) (e := e) (k := 3) (v := rfV ((mkT h s n).length : Nat)) a2 b2 he (by omega) ⟨hr.1,by rw [hr.2];omega⟩ (fun h => absurd rfl h) (fun _ => tq_new hle hall);have c2 : cH (mkA h e s n) ≤ cH (mkT h s n) + 101000 := c2;have c : cH (mkT h s n) ≤ cH h + 101000 := c;have c3 : cH (mkH h e s n) ≤ cH (mkA h e s n) + 8700000 := c3;have lH : (mkH h e s n).length = h.length + 2 := by rw [mkH,setH_len,lA]
 exact ⟨a3,b3,by omega,by omega,by omega⟩
variable {md me : Bool}
theorem st0_C (N : Nat) : StC N st0 := ⟨⟨(by decide : (-9223372036854775808 : Int) ≤ 0),(by decide : (0 : Int) ≤ 9223372036854775807),(by decide : (-9223372036854775808 : Int) ≤ 0),(by decide : (0 : Int) ≤ 9223372036854775807),(by decide : 0 ≤ 1000000)⟩,(by decide : ByteArray.empty.size ≤ 2000000),vl0_C N,vl0_C N,(fun _ h => by cases h),(by decide : 1 ≤ 300000000)⟩
theorem coN_le {k : Nat} (hk : k ≤ 30) : coN k ≤ 600000000 := by unfold coN;omega
def pkV (l : List Vl) (n : Int) : Vl := l.getD ((n.tmod l.length + l.length).tmod l.length).toNat vl0
theorem pkV_mem {l : List Vl} (h0 : 0 < l.length) (n : Int) : pkV l n ∈ l := by
 have hp := pk_rng l n h0;unfold pkV;rw [List.getD_eq_getElem?_getD,List.getElem?_eq_getElem (by omega)];exact List.getElem_mem _
theorem td_rng {n : Int} (m : Int) (hm : m = 5 ∨ m = 35) (h1 : -9223372036854775808 ≤ n) (h2 : n ≤ 9223372036854775807) : -9223372036854775808 ≤ n.tdiv m ∧ n.tdiv m ≤ 9223372036854775807 := by
 have e := Int.mul_tdiv_add_tmod n m;have h3 := Int.lt_tmod_of_pos n (b := m) (by omega);have h4 := Int.tmod_lt_of_pos n (b := m) (by omega);rcases hm with rfl | rfl <;> omega
structure Lq (E : Int → Prop) (n0 m : Nat) where
 k : Nat
 le : k ≤ m
 h : List Ob
 iv : Iv E h n0 k
def I64' (x : Int) : Prop := -9223372036854775808 ≤ x ∧ x ≤ 9223372036854775807
theorem sn251 {P : Program} {K : DS → Prop} {p : Prop} {r : Out} (hr : r.sat P K) (hp : p := by first | exact ⟨by decide,ini hq5.1 hq5.2⟩ | exact ⟨by decide,ini hq35.1 hq35.2⟩ | exact ini hq5.1 hq5.2 | exact ini hq35.1 hq35.2 | first | exact trivial | omega | exact ini (by omega) (by omega) | (intro hh;simp at hh;exact ini (by omega) (by omega)) | (intro hh;simp at hh ⊢;omega) | (simp at *;omega) | (simp_all;done)) : (Out.need p r).sat P K := ⟨hp,hr⟩
set_option maxHeartbeats 2000000 in
theorem Law18_ok (h : List Ob) (l : List Vl) (ops : List Int) (hh : HpIn h) (hil : ∀ x ∈ l,VlIn x) (hll : l.length ≤ 1500000) (hop : ∀ n ∈ ops,I64' n) (hol : ops.length ≤ 1500000) : Fn Tryz.prog 3 [hpD md h,vsD l,isD ops] (.v (.bool true)) := by
 have hhl := hh.len;refine yK tabT Tryz.func3 rfl rfl rfl rfl rfl rfl ?_;intro w0 s0 mx;refine ev_R tabT [] 100 ?_;refine zB ?_;refine zB (zE tabT [] 200 rfl ?_);refine zF ?_;refine zV _ (Usable_ok h l hh hil (by omega)) rfl ?_;refine zF ?_;refine yG _ (fun hg12 => exceptions_ok h l (by omega)) rfl ?_;refine zF ?_;refine zC (zA ?_);refine zR rfl (fun c1 => ?_) (fun c1 => ?_)
 ·
  refine ev_R tabT [] 300 ?_;refine zO (zM ?_);exact FinV.ret rfl (SubP.refl _)
 ·have hu : usableS h l = true ∧ 0 < l.length ∧ (∀ x ∈ l,excS h x = true) ∧ ops.length ≤ 30 := by
   simp at c1;refine ⟨c1.1.1.1,?_,c1.1.2,by omega⟩
   cases l with
   | nil => exact absurd rfl c1.1.1.2
   | cons a r => simp
  have hq : (qC h).1 = 0 ∧ ∀ x ∈ l,hasS h x = true := by
   have hu1 := hu.1;simp only [usableS,Bool.and_eq_true,decide_eq_true_eq,List.all_eq_true] at hu1;exact hu1
  have g : Uh h := uh_of hq.1;have hl5 := g.hi;have hl0 := hu.2.1;have hl30 := hu.2.2.2;have hgv : ∀ x ∈ l,Gv h x := fun x hx => has_gv (hil x hx) (hq.2 x hx);refine zK (zA ?_);refine zB (zZ tabT [1034,1036] [[],[0],[],[0,1,2],[],[],[0,1,2,3,4,5],[0,1,2,3,4,5,6]] 400 mixT (by kernel_rfl) rfl ?_);refine zF ?_;refine yD _ _ (Copy_G h hh) rfl ?_;refine zF ?_;refine yD _ _ (Copy_G h hh) rfl ?_;refine zF ?_;refine zC (zA ?_);refine zB ?_;refine yJ [1,2,3,7,8] [0,204,205] 410 [] [(201,.mrow 52 10 (.map (h) obD ob0)),(203,.mrow 52 10 (.map (h) obD ob0)),(204,.box 24 [.mo 201 (h).length]),(205,.box 24 [.mo 203 (h).length])] ?_;refine ⟨⟨le_t,⟨SubO.mp rfl,SubO.mp rfl,⟨rfl,SubL.same rfl⟩,⟨rfl,SubL.same rfl⟩,le_o⟩,rfl,rfl⟩,?_⟩;refine ev_R tabT [] 500 ?_;refine zL ?_;refine zX (ι := Lq (exE h) h.length ops.length) [1,3,7,8,37,38] [0] 550 (fun x => [(39,.v (.int .i64 x.k))]) (fun x => [(201,.mrow 52 10 (.map (x.h) obD ob0)),(203,.mrow 52 10 (.map (x.h) obD ob0)),(204,.box 24 [.mo 201 (x.h).length]),(205,.box 24 [.mo 203 (x.h).length])]) (fun x => ops.length - x.k) ⟨0,Nat.zero_le _,h,uh_xa g hh,uh_hpC g hh,Nat.le_refl _,by omega,by have := uh_cost hq.1;unfold coN;omega⟩ ?_;refine ⟨⟨⟨Sub.int rfl,le_t⟩,⟨SubO.mp rfl,SubO.mp rfl,⟨rfl,Sub.mo rfl,rfl,trivial⟩,⟨rfl,Sub.mo rfl,rfl,trivial⟩,le_o⟩,rfl,rfl⟩,fun x => ?_⟩;have hxk := x.le;have hxi := x.iv;have hxa := x.iv.xa;have hlo := x.iv.lo;have hhi := x.iv.hi;refine ev_R tabT [] 600 ?_;refine zB ?_;refine zR rfl (fun c5 => ?_) (fun c5 => ?_)
  ·have c5 : x.k < ops.length := by simpa using c5
   refine zK (zA ?_);refine zB ?_;refine zL ?_;refine ev_R tabT [] 700 ?_;have hon : I64' (ops.getD (x.k : Int).toNat 0) := by
    rw [getD_l c5];exact hop _ (List.getElem_mem _)
   obtain ⟨N,hN⟩ : ∃ N,N = ops.getD (x.k : Int).toNat 0 := ⟨_,rfl⟩;rw [← hN] at hon;have hn1 : -9223372036854775808 ≤ N := hon.1;have hn2 : N ≤ 9223372036854775807 := hon.2;have hq5 := td_rng 5 (.inl rfl) hn1 hn2;have hq35 := td_rng 35 (.inr rfl) hn1 hn2;have hm1 := Int.lt_tmod_of_pos N (b := 5) (by decide);have hm2 := Int.tmod_lt_of_pos N (b := 5) (by decide);have hXm := pkV_mem hl0 (N.tdiv 5);have hYm := pkV_mem hl0 (N.tdiv 35);obtain ⟨X,hX⟩ : ∃ X,X = pkV l (N.tdiv 5) := ⟨_,rfl⟩;obtain ⟨Y,hY⟩ : ∃ Y,Y = pkV l (N.tdiv 35) := ⟨_,rfl⟩;rw [← hX] at hXm;rw [← hY] at hYm;have hXE := exc_ref (hu.2.2.1 X hXm);have hYE := exc_ref (hu.2.2.1 Y hYm);have hYC : VlC x.h.length Y ∧ cV Y ≤ 43000 := ⟨(hgv Y hYm).2.mono hlo,by rw [vok_ref (hgv Y hYm).1 hYE.1];omega⟩;have hxo := hxa.x _ hXE.2;have hxin := yN hxo.ob;have hx4 := hxo.l4;have hxlen := hxo.len;have hxnl := hxo.nl;refine yJ [1,3,7,8,37,38,39] [0,201,203,204,205] 710 [(10,.v (.int .i64 N))] [] ?_;refine ⟨⟨⟨Sub.int hN.symm,le_t⟩,le_o,rfl,rfl⟩,?_⟩;refine zB (zE tabT [] 800 rfl ?_);repeat (first | refine zG ?_ | refine zH ?_ | refine sn251 ?_)
   refine zV _ (pick_ok l (N.tdiv 5) hl0 (by omega) hq5.1 hq5.2) rfl ?_;repeat (first | refine zG ?_ | refine zH ?_ | refine sn251 ?_)
   refine zV _ (pick_ok l (N.tdiv 35) hl0 (by omega) hq35.1 hq35.2) rfl ?_;repeat (first | refine zG ?_ | refine zH ?_ | refine sn251 ?_)
   refine zC (zA ?_);refine yJ [1,3,7,8,10,11,12,37,38,39] [0,201,203,204,205,718,719] 810 [] [(718,.box 34 (vlD X)),(719,.box 34 (vlD Y))] ?_;refine ⟨⟨le_t,⟨⟨rfl,by rw [hX];exact SubL.same rfl⟩,⟨rfl,by rw [hY];exact SubL.same rfl⟩,le_o⟩,rfl,rfl⟩,?_⟩;refine ev_joinK (ι := {H : List Ob // Iv (exE h) H h.length (x.k + 1)}) [1,3,7,8,11,37,38,39] [0,718] 2300 (fun _ => []) (fun j => [(201,.mrow 52 10 (.map (j.1) obD ob0)),(203,.mrow 52 10 (.map (j.1) obD ob0)),(204,.box 24 [.mo 201 (j.1).length]),(205,.box 24 [.mo 203 (j.1).length])]) ?_;refine ⟨?_,fun j => ?_⟩
   ·refine ev_R tabT [] 900 ?_;refine zL ?_;refine zB ?_;refine ev_R tabT [] 1200 ?_;refine yF (fun c11 => ?_) (fun c11 => ?_)
    ·
     refine zK (zA ?_);refine yF (fun c11x => ?_) (fun c11x => ?_)
     ·
      refine zB (zE tabT [1066] 1400 rfl ?_);refine zF ?_;refine yD _ _ (Context_G (exE h) x.h X Y hxa hXE (.inr hYE)) rfl ?_;refine zF ?_;refine zC (zA ?_);refine zE tabT [1069] 1500 rfl ?_;refine zF ?_;refine yD _ _ (Note_G (exE h) x.h X Y hxa hXE (.inr hYE)) rfl ?_;refine zF ?_;refine zC (zJ ?_);exact exJ_normal (⟨notH x.h X Y,hxi.not hXE.2 hYC (.inr hYE)⟩ : {H : List Ob // Iv (exE h) H h.length (x.k + 1)}) ⟨le_t,⟨SubO.mp rfl,SubO.mp rfl,⟨rfl,Sub.mo rfl,rfl,trivial⟩,⟨rfl,Sub.mo rfl,rfl,trivial⟩,le_o⟩,rfl,rfl⟩
     ·
      simp_all
    ·
     refine ev_Q tabT [] 1300 ?_;refine zA ?_;refine yF (fun c12 => ?_) (fun c12 => ?_)
     ·
      refine zB (zE tabT [1066] 1400 rfl ?_);refine zF ?_;refine yD _ _ (Context_G (exE h) x.h X Y hxa hXE (.inr hYE)) rfl ?_;refine zF ?_;refine zC (zA ?_);refine zE tabT [1069] 1500 rfl ?_;refine zF ?_;refine yD _ _ (Note_G (exE h) x.h X Y hxa hXE (.inr hYE)) rfl ?_;refine zF ?_;refine zC (zJ ?_);exact exJ_normal (⟨notH x.h X Y,hxi.not hXE.2 hYC (.inr hYE)⟩ : {H : List Ob // Iv (exE h) H h.length (x.k + 1)}) ⟨le_t,⟨SubO.mp rfl,SubO.mp rfl,⟨rfl,Sub.mo rfl,rfl,trivial⟩,⟨rfl,Sub.mo rfl,rfl,trivial⟩,le_o⟩,rfl,rfl⟩
     ·
      refine ev_R tabT [] 1600 ?_;refine yF (fun c15 => ?_) (fun c15 => ?_)
      ·
       refine zB (zE tabT [1074] 1700 rfl ?_);refine zF ?_;refine yD _ _ (rCause_G x.h X Y (by omega) hxin (by show 1 < _;omega) (by omega)) rfl ?_;refine zF ?_;refine zC (zA ?_);refine zE tabT [1077] 1800 rfl ?_;refine zF ?_
       refine yD _ _ (by
         have h9 := SetCause_G x.h X Y (by omega) ⟨hXE.1,hxo.ob⟩ (by omega) (by rw [hxo.ix.1];show _ ∧ 1 < _;omega) (by omega);rw [hxo.ix.1] at h9;exact h9) rfl ?_
       refine zF ?_;refine zC (zJ ?_);exact exJ_normal (⟨setH x.h X 1 Y,hxi.cau hXE.2 hYC (.inr hYE)⟩ : {H : List Ob // Iv (exE h) H h.length (x.k + 1)}) ⟨le_t,⟨SubO.mp rfl,SubO.mp rfl,⟨rfl,Sub.mo rfl,rfl,trivial⟩,⟨rfl,Sub.mo rfl,rfl,trivial⟩,le_o⟩,rfl,rfl⟩
      ·
       refine ev_R tabT [] 1900 ?_;refine yF (fun c18 => ?_) (fun c18 => ?_)
       ·
        refine zB (zE tabT [1081] 2000 rfl ?_);refine zF ?_;refine yD _ _ (rBegin_G x.h X (by omega) hxin (by omega) (by omega)) rfl ?_;refine zF ?_;refine zC (zA ?_);refine zE tabT [1083] 2100 rfl ?_;refine zF ?_
        refine yD _ _ (by
          have h9 := Blank_G x.h X (by omega) ⟨hXE.1,hxo.ob⟩ (by omega) (by rw [hxo.ix.2.2];show _ ∧ 3 < _;omega) (by omega);rw [hxo.ix.2.2] at h9;exact h9) rfl ?_
        refine zF ?_;refine zC (zJ ?_);exact exJ_normal (⟨setH (x.h ++ [tpO []]) X 3 (rfV (x.h.length : Nat)),hxi.bla (by omega) hXE.2⟩ : {H : List Ob // Iv (exE h) H h.length (x.k + 1)}) ⟨le_t,⟨SubO.mp rfl,SubO.mp rfl,⟨rfl,Sub.mo rfl,rfl,trivial⟩,⟨rfl,Sub.mo rfl,rfl,trivial⟩,le_o⟩,rfl,rfl⟩
       ·
        refine zB (zE tabT [1057] 2000 rfl ?_);refine zF ?_;refine yD _ _ (rMark_G x.h X ⟨#[102]⟩ N (by omega) hxin (by omega) (by omega) (yN hxo.tr) (Nat.le_trans hxo.tl (by decide)) (fun v hv => (hxo.tv v hv).1.vin) (by decide) hn1 hn2) rfl ?_;refine zF ?_;refine zC (zA ?_);refine zE tabT [1060] 2100 rfl ?_;refine zF ?_;refine yD _ _ (Marked_G (exE h) x.h X ⟨#[102]⟩ N hxa hXE (by decide) hn1 hn2) rfl ?_;refine zF ?_;refine zC (zJ ?_);exact exJ_normal (⟨mkH x.h X ⟨#[102]⟩ N,hxi.mar (by omega) hXE.2 (by decide) hn1 hn2⟩ : {H : List Ob // Iv (exE h) H h.length (x.k + 1)}) ⟨le_t,⟨SubO.mp rfl,SubO.mp rfl,⟨rfl,Sub.mo rfl,rfl,trivial⟩,⟨rfl,Sub.mo rfl,rfl,trivial⟩,le_o⟩,rfl,rfl⟩
   refine zB (zZ tabT [] [[],[],[0,1],[],[],[0,1,2,3,4],[0,1,2,3,4,5],[0,1,2,3,4,5,6]] 2400 mixT (by kernel_rfl) rfl ?_);refine zF ?_;refine sat_fnL _ (Chain_ok (exE h) j.1 X j.2.xa (.inr hXE)) rfl rfl ?_;refine zF ?_;refine sat_fnL _ (Chained_ok (exE h) j.1 X j.2.xa (.inr hXE)) rfl rfl ?_;refine zF ?_;refine zV _ (SameValues_ok _ _) rfl ?_;refine zF ?_;refine zC (zA ?_);refine zR rfl (fun c21 => ?_) (fun c21 => ?_)
   ·
    exact absurd c21 (by simp)
   ·
    refine zK (zJ (zA ?_));refine ev_Q tabT [] 2500 ?_;exact zP ⟨x.k + 1,by omega,j.1,j.2⟩ ⟨⟨Sub.int (by push_cast;rfl),le_t⟩,⟨SubO.mp rfl,SubO.mp rfl,⟨rfl,Sub.mo rfl,rfl,trivial⟩,⟨rfl,Sub.mo rfl,rfl,trivial⟩,le_o⟩,rfl,rfl⟩ (by show ops.length - (x.k + 1) < ops.length - x.k;omega)
  ·have hke : x.k = ops.length := by
    have h9 : ¬ x.k < ops.length := by simpa using c5
    omega
   refine yA (zU (zW (zS (zA ?_))));refine yJ [3,7,8] [0,204,205] 610 [] [(201,.mrow 52 10 (.map (x.h) obD ob0)),(203,.mrow 52 10 (.map (x.h) obD ob0)),(204,.box 24 [.mo 201 (x.h).length]),(205,.box 24 [.mo 203 (x.h).length])] ?_;refine ⟨⟨le_t,⟨SubO.mp rfl,SubO.mp rfl,⟨rfl,Sub.mo rfl,rfl,trivial⟩,⟨rfl,Sub.mo rfl,rfl,trivial⟩,le_o⟩,rfl,rfl⟩,?_⟩;refine ev_freeze 201 rfl (by repeat (first | exact trivial | exact rfl | exact (fun _ => rfl) | exact (fun h => absurd h (by decide)) | refine ⟨?_,?_⟩)) (by repeat (first | exact trivial | exact rfl | exact (fun _ => rfl) | exact (fun h => absurd h (by decide)) | refine ⟨?_,?_⟩)) ?_;refine ev_freeze 203 rfl (by repeat (first | exact trivial | exact rfl | exact (fun _ => rfl) | exact (fun h => absurd h (by decide)) | refine ⟨?_,?_⟩)) (by repeat (first | exact trivial | exact rfl | exact (fun _ => rfl) | exact (fun h => absurd h (by decide)) | refine ⟨?_,?_⟩)) ?_;refine yJ [3,7,8] [0,204,205] 620 [] [(204,.box 24 [.sl false 10 (x.h) obD ob0]),(205,.box 24 [.sl false 10 (x.h) obD ob0])] ?_;refine ⟨⟨le_t,⟨⟨rfl,Sub.ownSl rfl,rfl,trivial⟩,⟨rfl,Sub.ownSl rfl,rfl,trivial⟩,le_o⟩,rfl,rfl⟩,?_⟩;refine zB (zE tabT [] 2500 rfl ?_);refine zF ?_;refine zV _ ((SameStepEffect_ok h x.h st0 x.h st0 hhl (st0_C x.h.length).i (st0_C x.h.length).i (skc_step x.iv.hc (by omega) (st0_C _) (Nat.le_trans x.iv.co (coN_le (by omega)))) (skc_step x.iv.hc (by omega) (st0_C _) (Nat.le_trans x.iv.co (coN_le (by omega))))).args ⟨SubP.refl _,SubP.refl _,SubP.agg (by repeat (first | exact trivial | exact SubP.refl _ | exact SubP.nilSl rfl | refine SubP.agg ?_ | refine ⟨?_,?_⟩)),SubP.refl _,SubP.agg (by repeat (first | exact trivial | exact SubP.refl _ | exact SubP.nilSl rfl | refine SubP.agg ?_ | refine ⟨?_,?_⟩)),trivial⟩) rfl ?_;refine zF ?_;refine zC (zA (zO ?_));exact FinV.ret rfl (SubP.bool (sameE_self x.iv.lo))
open Go.ChangeShapes Go.WideShapes Go.ChangeAt Go.RowKit Go.Deep
theorem bulk_mem {H : Type} {d : DataW H} {l : List (DataW H)} (h : d ∈ l) : Rows.uptoBulk d ≤ Rows.uptoBulkAll l := by
 induction l with
 | nil => cases h
 | cons x r ih =>
  simp only [Rows.uptoBulkAll]
  cases List.mem_cons.1 h with
  | inl e => subst e;omega
  | inr e => have := ih e;omega
theorem bulk_one {H : Type} (d : DataW H) : 1 ≤ Rows.uptoBulk d := by
 cases d with
 | lit l => cases l <;> simp [Rows.uptoBulk]
 | nil => simp [Rows.uptoBulk]
 | ptr d => simp [Rows.uptoBulk]
 | slice elems spare => simp [Rows.uptoBulk]
 | agg parts => simp [Rows.uptoBulk]
 | iface t d => simp [Rows.uptoBulk]
 | map entries => simp [Rows.uptoBulk]
 | held h => simp [Rows.uptoBulk]
theorem bulk_length {H : Type} (l : List (DataW H)) : l.length ≤ Rows.uptoBulkAll l := by
 induction l with
 | nil => simp [Rows.uptoBulkAll]
 | cons x r ih => have := bulk_one x;simp only [Rows.uptoBulkAll,List.length_cons];omega
theorem yP {H : Type} {l : List (DataW H × List MemPlace)} {i : Nat} {y : DataW H × List MemPlace} (h : l[i]? = some y) {n : Nat} (hn : Rows.uptoBulk (DataW.agg (l.map (·.1))) ≤ n) : Rows.uptoBulk y.1 ≤ n := by
 have h1 : y.1 ∈ l.map (·.1) := List.mem_map.2 ⟨y,List.mem_of_getElem? h,rfl⟩;have h2 := bulk_mem h1;simp only [Rows.uptoBulk] at hn;omega
def sW (W : World) : Sb := ⟨fun b _ => b < W.heap.size,fun b _ => b < W.heap.size,fun _ _ h => h⟩
def I64 (x : Int) : Prop := -9223372036854775808 ≤ x ∧ x ≤ 9223372036854775807
theorem i64_wf {x : Int} (h : (Lit.int .i64 x).wf = true) : I64 x := by
 simp [Lit.wf] at h;have h1 : IntKind.i64.min = -9223372036854775808 := by decide
 have h2 : IntKind.i64.max = 9223372036854775807 := by decide
 unfold I64;omega
theorem u32_wf {x : Int} (h : (Lit.int .u32 x).wf = true) : 0 ≤ x ∧ x < 4294967296 := by
 simp [Lit.wf] at h;have h1 : IntKind.u32.min = 0 := by decide
 have h2 : IntKind.u32.max = 4294967295 := by decide
 omega
def Opn {H : Type} (enc : TypeId × Value → H) (P : Program) (W : World) (t : TypeId) {α : Type} (f : α → List D) (Q : α → Nat → Prop) : Prop :=
 ∀ (fuel : Nat) (cs : List Value) (d : DataW H) (ps : List MemPlace),cs.length = P.cellsOf t → DataW.trod enc P W 0 (fun _ => true) true fuel t cs = some (d,ps) →
  ∃ x,AllV W (sW W) (D.pvs (f x)) cs ∧ (∀ c ∈ cs,c.oneCell' = true) ∧ ∀ n,Rows.uptoBulk d ≤ n → Q x n
section
variable {H : Type} {enc : TypeId × Value → H} {P : Program} {W : World}
theorem one_mem {c : Value} (h : c.oneCell' = true) : ∀ x ∈ [c],x.oneCell' = true := fun x hx => by rw [List.mem_singleton] at hx;rw [hx];exact h
theorem Opn.int {t : TypeId} (ht : P.underlying t = some (.int .i64)) : Opn enc P W t iD (fun x _ => I64 x) := by
 intro fuel cs d ps _ h;obtain ⟨k,rfl,_,wf⟩ := DataW.trod_int ht h;exact ⟨k,⟨rfl,trivial⟩,one_mem rfl,fun _ _ => i64_wf wf⟩
theorem Opn.u32 {t : TypeId} (ht : P.underlying t = some (.int .u32)) : Opn enc P W t uD (fun x _ => x < 4294967296) := by
 intro fuel cs d ps _ h;obtain ⟨k,rfl,_,wf⟩ := DataW.trod_int ht h;have h1 := u32_wf wf;refine ⟨k.toNat,⟨?_,trivial⟩,one_mem rfl,fun _ _ => by omega⟩;show Value.int .u32 k = .int .u32 (k.toNat : Nat);rw [Int.toNat_of_nonneg h1.1]
theorem Opn.bool {t : TypeId} (ht : P.underlying t = some .bool) : Opn enc P W t (fun b : Bool => [.v (.bool b)]) (fun _ _ => True) := by
 intro fuel cs d ps _ h;obtain ⟨k,rfl,_⟩ := DataW.trod_bool ht h;exact ⟨k,⟨rfl,trivial⟩,one_mem rfl,fun _ _ => trivial⟩
theorem Opn.str {t : TypeId} (ht : P.underlying t = some .string) : Opn enc P W t sD (fun s n => s.size ≤ n) := by
 intro fuel cs d ps _ h;obtain ⟨k,rfl,hx,_⟩ := DataW.trod_string ht h;refine ⟨k,⟨rfl,trivial⟩,one_mem rfl,fun n hn => ?_⟩;simp only [Prod.mk.injEq] at hx;rw [hx.1] at hn;simp only [Rows.uptoBulk] at hn;have e : k.data.toList.length = k.size := by rw [Array.length_toList];rfl
 omega
theorem Opn.sl {α : Type} {f : α → List D} {Q : α → Nat → Prop} {t e : TypeId} {sz : Nat} (e0 : α) (ht : P.underlying t = some (.slice e)) (hc : P.cellsOf e = sz) (hz : 0 < sz) (he : Opn enc P W e f Q) :
  Opn enc P W t (fun l => [.sl false sz l f e0]) (fun l n => l.length ≤ n ∧ ∀ x ∈ l,Q x n) := by
 intro fuel cs d ps _ h;rcases open_slice ht h with ⟨rfl,hx⟩ | ⟨a,len,cap,m,n,D',Pl,rfl,_,hl,hm,hmm,hx,hel⟩
 ·exact ⟨[],⟨PV.sl_nil,trivial⟩,one_mem rfl,fun _ _ => ⟨Nat.zero_le _,fun x hx => by cases hx⟩⟩
 ·simp only [if_true] at hmm;subst hmm;have hq : ∀ i,i < len → ∃ x : α,∃ cs',W.cells? 0 (a.add (i * sz)) sz = some cs' ∧ AllV W (sW W) (D.pvs (f x)) cs' ∧ (∀ c ∈ cs',c.oneCell' = true) ∧ ∀ n,Rows.uptoBulk (D' i) ≤ n → Q x n := fun i hi => by
   obtain ⟨cs',h1,h2⟩ := hel i (by omega);rw [hc] at h1;obtain ⟨_,hlen,_⟩ := World.cells?_some h1;obtain ⟨x,hx1,hx2,hx3⟩ := he n cs' (D' i) (Pl i) (by omega) h2;exact ⟨x,cs',h1,hx1,hx2,hx3⟩
  obtain ⟨g,hg⟩ : ∃ g : Nat → α,∀ i,i < len → ∃ cs',W.cells? 0 (a.add (i * sz)) sz = some cs' ∧ AllV W (sW W) (D.pvs (f (g i))) cs' ∧ (∀ c ∈ cs',c.oneCell' = true) ∧ ∀ n,Rows.uptoBulk (D' i) ≤ n → Q (g i) n :=
   ⟨fun i => if h : i < len then Classical.choose (hq i h) else e0,fun i hi => by simp only [dif_pos hi];exact Classical.choose_spec (hq i hi)⟩
  have hrl : (((List.range len).map g).map fun a => D.pvs (f a)).length = len := by simp
  refine ⟨(List.range len).map g,⟨⟨some a,m,?_,?_,?_,?_,?_⟩,trivial⟩,one_mem rfl,fun n hn => ?_⟩
  ·show Value.slice (some a) len m = Value.slice (some a) (((List.range len).map g).map fun a => D.pvs (f a)).length m;rw [hrl]
  ·show (((List.range len).map g).map fun a => D.pvs (f a)).length ≤ m;rw [hrl];exact hl
  ·have : maxLen = 9223372036854775807 := by decide
   omega
  ·intro row hrow;have hrow : row ∈ ((List.range len).map g).map fun a => D.pvs (f a) := hrow;rw [List.map_map] at hrow;obtain ⟨i,hi,rfl⟩ := List.mem_map.1 hrow;obtain ⟨cs',h1,h2,-⟩ := hg i (List.mem_range.1 hi);have h3 := h2.length;obtain ⟨_,h4,_⟩ := World.cells?_some h1;show (D.pvs (f (g i))).length = sz;omega
  ·intro i row hrow;have hrow : (((List.range len).map g).map fun a => D.pvs (f a))[i]? = some row := hrow;rw [List.map_map,List.getElem?_map] at hrow;obtain ⟨j,hj,rfl⟩ := Option.map_eq_some_iff.1 hrow;have hi : i < len := by have := (List.getElem?_eq_some_iff.1 hj).1;simpa using this
   rw [List.getElem?_range hi] at hj
   cases hj;obtain ⟨cs',h1,h2,h3,-⟩ := hg i hi;obtain ⟨_,h4,h5⟩ := World.cells?_some h1;obtain ⟨b,off,spot⟩ := a
   cases spot with
   | some sp =>
    obtain ⟨cs0,k1,-⟩ := hg 0 (by omega);obtain ⟨_,k4,k5⟩ := World.cells?_some k1;have h6 := k5 0 hz;rw [List.getElem?_eq_getElem (by omega)] at h6;have := World.cell?_spot h6;simp [Addr.add] at this
   | none =>
    refine ⟨b,off,rfl,fun j d hd => ?_⟩;obtain ⟨v,hv,hp⟩ := h2.get hd;have hj : j < cs'.length := (List.getElem?_eq_some_iff.1 hv).1;have h6 := h5 j (by omega);rw [hv] at h6;have h7 : W.cell? ⟨b,off + i * sz + j,none⟩ = some v := by rw [add_plain,add_plain] at h6;exact h6
    exact ⟨v,h7,(World.block_lt_of_cell? _ _ h7 : b < W.heap.size),hp,h3 v (List.mem_of_getElem? hv)⟩
  ·simp only [Prod.mk.injEq] at hx;rw [hx.1] at hn;simp only [Rows.uptoBulk] at hn;have h1 := bulk_length ((List.range len).map D');simp only [List.length_map,List.length_range] at h1;refine ⟨by simp;omega,fun x hx => ?_⟩;obtain ⟨i,hi,rfl⟩ := List.mem_map.1 hx;obtain ⟨cs',-,-,-,h4⟩ := hg i (List.mem_range.1 hi);exact h4 n (by have := bulk_mem (d := D' i) (l := (List.range len).map D') (List.mem_map.2 ⟨i,hi,rfl⟩);omega)
end
theorem list5 {α : Type} {l : List α} (h : l.length = 5) : ∃ c0 c1 c2 c3 c4,l = [c0,c1,c2,c3,c4] := by
 match l,h with
 | [c0,c1,c2,c3,c4],_ => exact ⟨c0,c1,c2,c3,c4,rfl⟩
theorem list7 {α : Type} {l : List α} (h : l.length = 7) : ∃ c0 c1 c2 c3 c4 c5 c6,l = [c0,c1,c2,c3,c4,c5,c6] := by
 match l,h with
 | [c0,c1,c2,c3,c4,c5,c6],_ => exact ⟨c0,c1,c2,c3,c4,c5,c6,rfl⟩
theorem list10 {α : Type} {l : List α} (h : l.length = 10) : ∃ c0 c1 c2 c3 c4 c5 c6 c7 c8 c9,l = [c0,c1,c2,c3,c4,c5,c6,c7,c8,c9] := by
 match l,h with
 | [c0,c1,c2,c3,c4,c5,c6,c7,c8,c9],_ => exact ⟨c0,c1,c2,c3,c4,c5,c6,c7,c8,c9,rfl⟩
theorem qK {W : World} {s : Sb} {d : D} {c : Value} (h : AllV W s (D.pvs [d]) [c]) : d.pv.p W s c := h.1
section
variable {H : Type} {enc : TypeId × Value → H} {W : World}
def intD (p : Bool × List Nat) : List D := [.v (.bool p.1),usD p.2]
set_option maxRecDepth 100000 in
theorem Opn.bigI : Opn enc Tryz.prog W 32 intD (fun p n => p.2.length ≤ n ∧ ∀ x ∈ p.2,x < 4294967296) := by
 intro fuel cs d ps hl h;have e4 : Tryz.prog.cellsOf 4 = 1 := by kernel_rfl
 have e22 : Tryz.prog.cellsOf 30 = 1 := by kernel_rfl
 have eI : Tryz.prog.cellsOf 32 = 2 := by kernel_rfl
 rw [eI] at hl
 match cs,hl with
 | [c0,c1],_ =>
  obtain ⟨xs,n1,_,hx,_,hlen,hg⟩ := DataW.trod_struct Tryz.underlying32 h
  match xs,hlen with
  | [y0,y1],_ =>
   have g0 : DataW.trod enc Tryz.prog W 0 (fun _ => true) true n1 4 (([c0,c1].drop 0).take (Tryz.prog.cellsOf 4)) = some y0 := hg 0 _ rfl;rw [e4] at g0
   replace g0 : DataW.trod enc Tryz.prog W 0 (fun _ => true) true n1 4 [c0] = some y0 := g0
   have g1 : DataW.trod enc Tryz.prog W 0 (fun _ => true) true n1 30 (([c0,c1].drop 1).take (Tryz.prog.cellsOf 30)) = some y1 := hg 1 _ rfl;rw [e22] at g1
   replace g1 : DataW.trod enc Tryz.prog W 0 (fun _ => true) true n1 30 [c1] = some y1 := g1
   obtain ⟨x0,a0,o0,q0⟩ := Opn.bool Tryz.underlying4 _ _ y0.1 y0.2 (by rw [e4];rfl) g0;obtain ⟨x1,a1,o1,q1⟩ := Opn.sl 0 Tryz.underlying30 (sz := 1) (by kernel_rfl) (by decide) (Opn.u32 Tryz.underlying83) _ _ y1.1 y1.2 (by rw [e22];rfl) g1;simp only [Prod.mk.injEq] at hx;refine ⟨(x0,x1),⟨qK a0,qK a1,trivial⟩,fun c hc => ?_,fun n hn => ?_⟩
   ·simp only [List.mem_cons,List.not_mem_nil,or_false] at hc;rcases hc with rfl | rfl
    ·exact o0 _ (by simp)
    ·exact o1 _ (by simp)
   ·rw [hx.1] at hn;exact q1 n (yP (i := 1) (y := y1) rfl hn)
set_option maxRecDepth 100000 in
theorem Opn.val : Opn enc Tryz.prog W 34 vlD (fun v n => n ≤ 1048576 → VlIn v) := by
 intro fuel cs d ps hl h;have e3 : Tryz.prog.cellsOf 3 = 1 := by kernel_rfl
 have e9 : Tryz.prog.cellsOf 9 = 1 := by kernel_rfl
 have e24 : Tryz.prog.cellsOf 32 = 2 := by kernel_rfl
 have eV : Tryz.prog.cellsOf 34 = 7 := by kernel_rfl
 rw [eV] at hl;obtain ⟨c0,c1,c2,c3,c4,c5,c6,rfl⟩ := list7 hl;obtain ⟨xs,n1,_,hx,_,hlen,hg⟩ := DataW.trod_struct Tryz.underlying34 h;obtain ⟨y0,y1,y2,y3,y4,rfl⟩ := list5 hlen;have g0 : DataW.trod enc Tryz.prog W 0 (fun _ => true) true n1 3 (([c0,c1,c2,c3,c4,c5,c6].drop 0).take (Tryz.prog.cellsOf 3)) = some y0 := hg 0 _ rfl;rw [e3] at g0
 replace g0 : DataW.trod enc Tryz.prog W 0 (fun _ => true) true n1 3 [c0] = some y0 := g0
 have g1 : DataW.trod enc Tryz.prog W 0 (fun _ => true) true n1 32 (([c0,c1,c2,c3,c4,c5,c6].drop 1).take (Tryz.prog.cellsOf 32)) = some y1 := hg 1 _ rfl;rw [e24] at g1
 replace g1 : DataW.trod enc Tryz.prog W 0 (fun _ => true) true n1 32 [c1,c2] = some y1 := g1
 have g2 : DataW.trod enc Tryz.prog W 0 (fun _ => true) true n1 32 (([c0,c1,c2,c3,c4,c5,c6].drop 3).take (Tryz.prog.cellsOf 32)) = some y2 := hg 2 _ rfl;rw [e24] at g2
 replace g2 : DataW.trod enc Tryz.prog W 0 (fun _ => true) true n1 32 [c3,c4] = some y2 := g2
 have g3 : DataW.trod enc Tryz.prog W 0 (fun _ => true) true n1 9 (([c0,c1,c2,c3,c4,c5,c6].drop 5).take (Tryz.prog.cellsOf 9)) = some y3 := hg 3 _ rfl;rw [e9] at g3
 replace g3 : DataW.trod enc Tryz.prog W 0 (fun _ => true) true n1 9 [c5] = some y3 := g3
 have g4 : DataW.trod enc Tryz.prog W 0 (fun _ => true) true n1 3 (([c0,c1,c2,c3,c4,c5,c6].drop 6).take (Tryz.prog.cellsOf 3)) = some y4 := hg 4 _ rfl;rw [e3] at g4
 replace g4 : DataW.trod enc Tryz.prog W 0 (fun _ => true) true n1 3 [c6] = some y4 := g4
 obtain ⟨x0,a0,o0,q0⟩ := Opn.int Tryz.underlying3 _ _ y0.1 y0.2 (by rw [e3];rfl) g0;obtain ⟨x1,a1,o1,q1⟩ := Opn.bigI _ _ y1.1 y1.2 (by rw [e24];rfl) g1;obtain ⟨x2,a2,o2,q2⟩ := Opn.bigI _ _ y2.1 y2.2 (by rw [e24];rfl) g2;obtain ⟨x3,a3,o3,q3⟩ := Opn.str Tryz.underlying9 _ _ y3.1 y3.2 (by rw [e9];rfl) g3;obtain ⟨x4,a4,o4,q4⟩ := Opn.int Tryz.underlying3 _ _ y4.1 y4.2 (by rw [e3];rfl) g4;simp only [Prod.mk.injEq] at hx;refine ⟨⟨x0,x1.1,x1.2,x2.1,x2.2,x3,x4⟩,⟨qK a0,a1.1,a1.2.1,a2.1,a2.2.1,qK a3,qK a4,trivial⟩,fun c hc => ?_,fun n hn hn2 => ?_⟩
 ·simp only [List.mem_cons,List.not_mem_nil,or_false] at hc;rcases hc with rfl | rfl | rfl | rfl | rfl | rfl | rfl
  ·exact o0 _ (by simp)
  ·exact o1 _ (by simp)
  ·exact o1 _ (by simp)
  ·exact o2 _ (by simp)
  ·exact o2 _ (by simp)
  ·exact o3 _ (by simp)
  ·exact o4 _ (by simp)
 ·rw [hx.1] at hn;have b0 := q0 n (yP (i := 0) (y := y0) rfl hn);have b1 := q1 n (yP (i := 1) (y := y1) rfl hn);have b2 := q2 n (yP (i := 2) (y := y2) rfl hn);have b3 := q3 n (yP (i := 3) (y := y3) rfl hn);have b4 := q4 n (yP (i := 4) (y := y4) rfl hn);exact ⟨b0.1,b0.2,b4.1,b4.2,b1.2,b2.2,by show x1.2.length ≤ _;omega,by show x2.2.length ≤ _;omega,by show x3.size ≤ _;omega⟩
set_option maxRecDepth 100000 in
theorem Opn.obj : Opn enc Tryz.prog W 52 obD (fun o n => n ≤ 1048576 → ObIn o) := by
 intro fuel cs d ps hl h;have e3 : Tryz.prog.cellsOf 3 = 1 := by kernel_rfl
 have e9 : Tryz.prog.cellsOf 9 = 1 := by kernel_rfl
 have eI : Tryz.prog.cellsOf 26 = 1 := by kernel_rfl
 have eS : Tryz.prog.cellsOf 50 = 1 := by kernel_rfl
 have eV : Tryz.prog.cellsOf 25 = 1 := by kernel_rfl
 have eO : Tryz.prog.cellsOf 52 = 10 := by kernel_rfl
 rw [eO] at hl;obtain ⟨c0,c1,c2,c3,c4,c5,c6,c7,c8,c9,rfl⟩ := list10 hl;obtain ⟨xs,n1,_,hx,_,hlen,hg⟩ := DataW.trod_struct Tryz.underlying52 h;obtain ⟨y0,y1,y2,y3,y4,y5,y6,y7,y8,y9,rfl⟩ := list10 hlen;have g0 : DataW.trod enc Tryz.prog W 0 (fun _ => true) true n1 3 (([c0,c1,c2,c3,c4,c5,c6,c7,c8,c9].drop 0).take (Tryz.prog.cellsOf 3)) = some y0 := hg 0 _ rfl;rw [e3] at g0
 replace g0 : DataW.trod enc Tryz.prog W 0 (fun _ => true) true n1 3 [c0] = some y0 := g0
 have g1 : DataW.trod enc Tryz.prog W 0 (fun _ => true) true n1 9 (([c0,c1,c2,c3,c4,c5,c6,c7,c8,c9].drop 1).take (Tryz.prog.cellsOf 9)) = some y1 := hg 1 _ rfl;rw [e9] at g1
 replace g1 : DataW.trod enc Tryz.prog W 0 (fun _ => true) true n1 9 [c1] = some y1 := g1
 have g2 : DataW.trod enc Tryz.prog W 0 (fun _ => true) true n1 3 (([c0,c1,c2,c3,c4,c5,c6,c7,c8,c9].drop 2).take (Tryz.prog.cellsOf 3)) = some y2 := hg 2 _ rfl;rw [e3] at g2
 replace g2 : DataW.trod enc Tryz.prog W 0 (fun _ => true) true n1 3 [c2] = some y2 := g2
 have g3 : DataW.trod enc Tryz.prog W 0 (fun _ => true) true n1 26 (([c0,c1,c2,c3,c4,c5,c6,c7,c8,c9].drop 3).take (Tryz.prog.cellsOf 26)) = some y3 := hg 3 _ rfl;rw [eI] at g3
 replace g3 : DataW.trod enc Tryz.prog W 0 (fun _ => true) true n1 26 [c3] = some y3 := g3
 have g4 : DataW.trod enc Tryz.prog W 0 (fun _ => true) true n1 26 (([c0,c1,c2,c3,c4,c5,c6,c7,c8,c9].drop 4).take (Tryz.prog.cellsOf 26)) = some y4 := hg 4 _ rfl;rw [eI] at g4
 replace g4 : DataW.trod enc Tryz.prog W 0 (fun _ => true) true n1 26 [c4] = some y4 := g4
 have g5 : DataW.trod enc Tryz.prog W 0 (fun _ => true) true n1 50 (([c0,c1,c2,c3,c4,c5,c6,c7,c8,c9].drop 5).take (Tryz.prog.cellsOf 50)) = some y5 := hg 5 _ rfl;rw [eS] at g5
 replace g5 : DataW.trod enc Tryz.prog W 0 (fun _ => true) true n1 50 [c5] = some y5 := g5
 have g6 : DataW.trod enc Tryz.prog W 0 (fun _ => true) true n1 25 (([c0,c1,c2,c3,c4,c5,c6,c7,c8,c9].drop 6).take (Tryz.prog.cellsOf 25)) = some y6 := hg 6 _ rfl;rw [eV] at g6
 replace g6 : DataW.trod enc Tryz.prog W 0 (fun _ => true) true n1 25 [c6] = some y6 := g6
 have g7 : DataW.trod enc Tryz.prog W 0 (fun _ => true) true n1 25 (([c0,c1,c2,c3,c4,c5,c6,c7,c8,c9].drop 7).take (Tryz.prog.cellsOf 25)) = some y7 := hg 7 _ rfl;rw [eV] at g7
 replace g7 : DataW.trod enc Tryz.prog W 0 (fun _ => true) true n1 25 [c7] = some y7 := g7
 have g8 : DataW.trod enc Tryz.prog W 0 (fun _ => true) true n1 3 (([c0,c1,c2,c3,c4,c5,c6,c7,c8,c9].drop 8).take (Tryz.prog.cellsOf 3)) = some y8 := hg 8 _ rfl;rw [e3] at g8
 replace g8 : DataW.trod enc Tryz.prog W 0 (fun _ => true) true n1 3 [c8] = some y8 := g8
 have g9 : DataW.trod enc Tryz.prog W 0 (fun _ => true) true n1 3 (([c0,c1,c2,c3,c4,c5,c6,c7,c8,c9].drop 9).take (Tryz.prog.cellsOf 3)) = some y9 := hg 9 _ rfl;rw [e3] at g9
 replace g9 : DataW.trod enc Tryz.prog W 0 (fun _ => true) true n1 3 [c9] = some y9 := g9
 obtain ⟨x0,a0,o0,q0⟩ := Opn.int Tryz.underlying3 _ _ y0.1 y0.2 (by rw [e3];rfl) g0;obtain ⟨x1,a1,o1,q1⟩ := Opn.str Tryz.underlying9 _ _ y1.1 y1.2 (by rw [e9];rfl) g1;obtain ⟨x2,a2,o2,q2⟩ := Opn.int Tryz.underlying3 _ _ y2.1 y2.2 (by rw [e3];rfl) g2;obtain ⟨x3,a3,o3,q3⟩ := Opn.sl 0 Tryz.underlying26 (sz := 1) (by kernel_rfl) (by decide) (Opn.int Tryz.underlying3) _ _ y3.1 y3.2 (by rw [eI];rfl) g3;obtain ⟨x4,a4,o4,q4⟩ := Opn.sl 0 Tryz.underlying26 (sz := 1) (by kernel_rfl) (by decide) (Opn.int Tryz.underlying3) _ _ y4.1 y4.2 (by rw [eI];rfl) g4;obtain ⟨x5,a5,o5,q5⟩ := Opn.sl ByteArray.empty Tryz.underlying50 (sz := 1) (by kernel_rfl) (by decide) (Opn.str Tryz.underlying9) _ _ y5.1 y5.2 (by rw [eS];rfl) g5;obtain ⟨x6,a6,o6,q6⟩ := Opn.sl vl0 Tryz.underlying25 (sz := 7) (by kernel_rfl) (by decide) Opn.val _ _ y6.1 y6.2 (by rw [eV];rfl) g6;obtain ⟨x7,a7,o7,q7⟩ := Opn.sl vl0 Tryz.underlying25 (sz := 7) (by kernel_rfl) (by decide) Opn.val _ _ y7.1 y7.2 (by rw [eV];rfl) g7;obtain ⟨x8,a8,o8,q8⟩ := Opn.int Tryz.underlying3 _ _ y8.1 y8.2 (by rw [e3];rfl) g8;obtain ⟨x9,a9,o9,q9⟩ := Opn.int Tryz.underlying3 _ _ y9.1 y9.2 (by rw [e3];rfl) g9;simp only [Prod.mk.injEq] at hx;refine ⟨⟨x0,x1,x2,x3,x4,x5,x6,x7,x8,x9⟩,⟨qK a0,qK a1,qK a2,qK a3,qK a4,qK a5,qK a6,qK a7,qK a8,qK a9,trivial⟩,fun c hc => ?_,fun n hn hn2 => ?_⟩
 ·simp only [List.mem_cons,List.not_mem_nil,or_false] at hc;rcases hc with rfl | rfl | rfl | rfl | rfl | rfl | rfl | rfl | rfl | rfl
  ·exact o0 _ (by simp)
  ·exact o1 _ (by simp)
  ·exact o2 _ (by simp)
  ·exact o3 _ (by simp)
  ·exact o4 _ (by simp)
  ·exact o5 _ (by simp)
  ·exact o6 _ (by simp)
  ·exact o7 _ (by simp)
  ·exact o8 _ (by simp)
  ·exact o9 _ (by simp)
 ·rw [hx.1] at hn;have b0 := q0 n (yP (i := 0) (y := y0) rfl hn);have b1 := q1 n (yP (i := 1) (y := y1) rfl hn);have b2 := q2 n (yP (i := 2) (y := y2) rfl hn);have b3 := q3 n (yP (i := 3) (y := y3) rfl hn);have b4 := q4 n (yP (i := 4) (y := y4) rfl hn);have b5 := q5 n (yP (i := 5) (y := y5) rfl hn);have b6 := q6 n (yP (i := 6) (y := y6) rfl hn);have b7 := q7 n (yP (i := 7) (y := y7) rfl hn);have b8 := q8 n (yP (i := 8) (y := y8) rfl hn);have b9 := q9 n (yP (i := 9) (y := y9) rfl hn)
  exact ⟨b0,b2,b8,b9,by show x1.size ≤ _;omega,by show x3.length ≤ _;omega,by show x4.length ≤ _;omega,by show x5.length ≤ _;omega,by show x6.length ≤ _;omega,by show x7.length ≤ _;omega,
   fun s hs => by have := b5.2 s hs;omega,fun v hv => b6.2 v hv hn2,fun v hv => b7.2 v hv hn2⟩
def hpL (h : List Ob) : List D := [.sl false 10 h obD ob0]
set_option maxRecDepth 100000 in
theorem Opn.heap : Opn enc Tryz.prog W 24 hpL (fun h n => n ≤ 1048576 → HpIn h) := by
 intro fuel cs d ps hl h;have eH : Tryz.prog.cellsOf 24 = 1 := by kernel_rfl
 have eO : Tryz.prog.cellsOf 22 = 1 := by kernel_rfl
 rw [eH] at hl
 match cs,hl with
 | [c0],_ =>
  obtain ⟨xs,n1,_,hx,_,hlen,hg⟩ := DataW.trod_struct Tryz.underlying24 h
  match xs,hlen with
  | [y0],_ =>
   have g0 : DataW.trod enc Tryz.prog W 0 (fun _ => true) true n1 22 (([c0].drop 0).take (Tryz.prog.cellsOf 22)) = some y0 := hg 0 _ rfl;rw [eO] at g0
   replace g0 : DataW.trod enc Tryz.prog W 0 (fun _ => true) true n1 22 [c0] = some y0 := g0
   obtain ⟨x0,a0,o0,q0⟩ := Opn.sl ob0 Tryz.underlying22 (sz := 10) (by kernel_rfl) (by decide) Opn.obj _ _ y0.1 y0.2 (by rw [eO];rfl) g0;simp only [Prod.mk.injEq] at hx;refine ⟨x0,a0,o0,fun n hn hn2 => ?_⟩;rw [hx.1] at hn;have b0 := q0 n (yP (i := 0) (y := y0) rfl hn);exact ⟨fun o ho => b0.2 o ho hn2,by omega⟩
theorem Opn.agg {P : Program} {α : Type} {f : α → List D} {Q : α → Nat → Prop} {t : TypeId} {fs : Array Field} {base : Nat} (ho : Opn enc P W t f Q) (ht : P.underlying t = some (.struct fs)) {v : Value} {d : DataW H} {ps : List MemPlace}
  (hv : Value.okWide P W .any base t v) (h : DataW.Trod enc P W 0 (fun _ => true) true t v d ps) :
  ∃ x,(D.agg (f x)).pv.p W (sW W) v ∧ ∀ n,Rows.uptoBulk d ≤ n → Q x n := by
 obtain ⟨cs,rfl,hsz⟩ := okWide_struct ht hv;obtain ⟨l⟩ := cs;obtain ⟨fuel,hf⟩ := h;obtain ⟨x,h1,-,h3⟩ := ho fuel l d ps hsz hf;exact ⟨x,⟨l,rfl,h1⟩,h3⟩
end


open Go.ChangeShapes Go.WideShapes Go.ChangeAt Go.RowKit
theorem TrodAll_below {H : Type} {enc : TypeId × Value → H} {P : Program} (hl : laidOutB P = true) {W W' : World} (hb : Below W.heap.size W W') :
  ∀ (ts : List TypeId) (vs : List Value) (ds : List (DataW H)) (ps : List MemPlace),(∀ t ∈ ts,P.readableRec t = true ∧ t < P.types.size) →
   DataW.TrodAll enc P W 0 (fun _ => true) true ts vs ds ps → DataW.TrodAll enc P W' 0 (fun b => decide (b < W.heap.size)) true ts vs ds ps
 | [],[],[],ps,_,h => h
 | t :: ts,v :: vs,d :: ds,ps,hr,h => by
  obtain ⟨p,q,hp,hq,e⟩ := h;have lt : ∀ x ∈ p,x.block < W.heap.size := by obtain ⟨m,hm⟩ := hp;exact DataW.trod_lt m _ _ _ hm
  have ht := hr t (by simp);exact ⟨p,q,Below.trod hl ht.1 ht.2 hp hb lt,TrodAll_below hl hb ts vs ds q (fun x hx => hr x (by simp [hx])) hq,e⟩
 | [],[],_ :: _,_,_,h => by simp [DataW.TrodAll] at h
 | [],_ :: _,_,_,_,h => by simp [DataW.TrodAll] at h
 | _ :: _,[],_,_,_,h => by simp [DataW.TrodAll] at h
 | _ :: _,_ :: _,[],_,_,h => by simp [DataW.TrodAll] at h
end Go.Proofs.YtmbnclhokhggaaaGreatDoor
