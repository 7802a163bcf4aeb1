/- AttributeChangeMatchesSpec: the given statement. Condition: what the law reads is of bulk at most 1048576 (the second form); the listed variables start as the program's text lays them. -/
import Derived.Test.YtbhndnphimmjjaaGreatDoorM25
import Derived.Test.YtbhndnphimmjjaaGreatDoorM23
import Derived.Test.YtbhndnphimmjjaaGreatDoorRows
import Derived.Test.YtbhndnphimmjjaaGreatDoorM19
import Derived.ProofKit
import Derived.OpenShut
import Derived.ShutString
import Derived.Deep.Slices
import Derived.Test.YtbhndnphimmjjaaGreatDoorM13
import Derived.Deep.Matrix
import Derived.ChangeOld
import Derived.Below
import Derived.SizedLaws
import Derived.Test.YtbhndnphimmjjaaGreatDoorCards
import Derived.Test.YtbhndnphimmjjaaGreatDoorTie
import Derived.Lib.LaidU8T
import Derived.Deep.DeepHandedRow
import Derived.Deep.DeepWitnessRowRef
import Derived.Lib.LaidTab
import Derived.Shelf.Vars
import Derived.PinnedBridge
import Derived.Lib.LaidPrint
import Derived.Lib.LaidSlice
import Derived.Lib.LaidIn
namespace Go.Proofs.YtbhndnphimmjjaaGreatDoor
open Go.RowKit
variable {md me : Bool}
theorem kN0 {α : Type} (f : α → Nat) : ∀ (l : List α) (k : Nat),((l.eraseIdx k).map f).sum ≤ (l.map f).sum
 | [],_ => Nat.le_refl _
 | a :: l,0 => by rw [List.eraseIdx_cons_zero,List.map_cons,List.sum_cons];omega
 | a :: l,k + 1 => by
  have := kN0 f l k;rw [List.eraseIdx_cons_succ,List.map_cons,List.map_cons,List.sum_cons,List.sum_cons];omega
section
variable {h : List Ob} (g : Uh h) (hh : HpIn h) (hp : (qM h).1 = 0)
include g hh hp
theorem zJ1 {v : Vl} {o : Ob} (hk : wokS h v = true) (hn : ∀ x ∈ o.names,x.size ≤ 2000000) (hi : ∀ x ∈ o.items,Gc h x) (ln : o.names.length ≤ 2000) (li : o.items.length ≤ 2000) (hst : 0 ≤ o.state ∧ o.state ≤ 1099511627777)
  (hsum : (o.names.map fun s => s.size + 1).sum ≤ cO (zR h v) + 3000000) (he : o = { zR h v with names := o.names,items := o.items,state := o.state }) : Eg h (h.set v.r.toNat o) (vlS vl0) := by
 have hc := kC0 g hh;have hq := jW0 hp;have hhl := hh.len;have hk0 : (zR h v).kind ≠ 0 ∧ (zR h v).kind ≠ 18 := by
  unfold wokS at hk;simp only [Bool.or_eq_true,Bool.and_eq_true,decide_eq_true_eq] at hk;omega
 obtain ⟨oc,co⟩ := obj_C hc hk0.1;have oi := oc.oin;have ho : ObC h.length o := by
  rw [he];exact ⟨⟨oi.kd,oi.cl,oi.co,(by show -9223372036854775808 ≤ o.state ∧ o.state ≤ 9223372036854775807;omega),oi.nm,oi.rl,oi.ol,(by show o.names.length ≤ 2000000;omega),(by show o.items.length ≤ 2000000;omega),oi.kl,hn,fun x hx => (hi x hx).1.vin,oi.kv⟩,fun h9 => absurd h9 hk0.2,oc.cls,oc.refs,oc.order,oc.keys,fun x hx => (hi x hx).1⟩
 have hcv := tF0 hi;have hco : cO o ≤ 2 * cO (zR h v) + 3000000 + cVs o.items := by
  have e1 : cO o = 120 + 10 * (zR h v).name.size + (o.names.map fun s => s.size + 1).sum + 23 * (zR h v).refs.length + 23 * (zR h v).order.length + cVs (zR h v).keys + cVs o.items := by rw [he];rfl
  have e2 : cO (zR h v) = 120 + 10 * (zR h v).name.size + ((zR h v).names.map fun s => s.size + 1).sum + 23 * (zR h v).refs.length + 23 * (zR h v).order.length + cVs (zR h v).keys + cVs (zR h v).items := rfl;omega
 have h1 := cH_set h v.r.toNat o;have h2 : 43000 * o.items.length ≤ 43000 * 2000 := Nat.mul_le_mul_left _ li;have hv0 : VlC (h.set v.r.toNat o).length vl0 := cK _;refine ⟨by rw [List.length_set];exact Nat.le_refl _,(st_vlc (gc_0 h).1).i,vZ0 (hpC_set hc ho) (by rw [List.length_set];exact hhl) ?_ (by omega)⟩;rw [List.length_set];exact cI0 (cK _)
theorem eg_set {v w : Vl} {s : ByteArray} (hk : wokS h v = true) (hw : Gc h w) (hs : s.size ≤ 100) : Eg h (setF h v s w).2 (setF h v s w).1 := by
 have wr := gG0 g hk;have hc := kC0 g hh;have hq := jW0 hp;have hhl := hh.len;unfold setF;split
 ·exact pC g hh hp (st_too _)
 ·have hil := wr.il;have hnl := wr.nl;have hst := wr.st;have hit : ∀ x ∈ (zR h v).items,Gc h x := qP0 g hh v;have hnz : ∀ x ∈ (zR h v).names,x.size ≤ 2000000 := (mX hh v).ns;have e2 : cO (zR h v) = 120 + 10 * (zR h v).name.size + ((zR h v).names.map fun s => s.size + 1).sum + 23 * (zR h v).refs.length + 23 * (zR h v).order.length + cVs (zR h v).keys + cVs (zR h v).items := rfl;have hne : (jL (qD (zR h v) s w)).names = (qD (zR h v) s w).names := by unfold jL;split <;> rfl
  have hie : (jL (qD (zR h v) s w)).items = (qD (zR h v) s w).items := by unfold jL;split <;> rfl
  have hse : 0 ≤ (jL (qD (zR h v) s w)).state ∧ (jL (qD (zR h v) s w)).state ≤ 1099511627777 := by
   unfold jL;split
   ·rw [show ({ qD (zR h v) s w with state := (qD (zR h v) s w).state + 1 } : Ob).state = (qD (zR h v) s w).state + 1 from rfl,mC0];omega
   ·rw [mC0];omega
  refine zJ1 g hh hp hk ?_ ?_ ?_ ?_ hse ?_ ?_
  ·rw [hne];unfold qD;split
   ·intro x hx;rcases List.mem_append.1 hx with hx | hx
    ·exact hnz x hx
    ·rw [List.mem_singleton.1 hx];omega
   ·exact hnz
  ·rw [hie];unfold qD;split
   ·intro x hx;rcases List.mem_append.1 hx with hx | hx
    ·exact hit x hx
    ·rw [List.mem_singleton.1 hx];exact hw
   ·intro x hx;rcases List.mem_or_eq_of_mem_set hx with hx | hx
    ·exact hit x hx
    ·rw [hx];exact hw
  ·rw [hne];unfold qD;split
   ·show ((zR h v).names ++ [s]).length ≤ 2000;rw [List.length_append,List.length_singleton];omega
   ·show (zR h v).names.length ≤ 2000;omega
  ·rw [hie];unfold qD;split
   ·show ((zR h v).items ++ [w]).length ≤ 2000;rw [List.length_append,List.length_singleton];omega
   ·show ((zR h v).items.set _ w).length ≤ 2000;rw [List.length_set];omega
  ·rw [hne];unfold qD;split
   ·show (((zR h v).names ++ [s]).map fun s => s.size + 1).sum ≤ _;rw [List.map_append,List.sum_append,List.map_singleton,List.sum_singleton];omega
   ·show ((zR h v).names.map fun s => s.size + 1).sum ≤ _;omega
  ·unfold jL qD;repeat' split
   all_goals rfl
theorem eg_del {v : Vl} {s : ByteArray} (hk : wokS h v = true) (hw : hasS h v = true) (hs : s.size ≤ 100) : Eg h (delF h v s).2 (delF h v s).1 := by
 have wr := gG0 g hk;unfold delF;split
 ·exact pC g hh hp (lk_C g hw hs _)
 ·have hil := wr.il;have hnl := wr.nl;have hst := wr.st;have e2 : cO (zR h v) = 120 + 10 * (zR h v).name.size + ((zR h v).names.map fun s => s.size + 1).sum + 23 * (zR h v).refs.length + 23 * (zR h v).order.length + cVs (zR h v).keys + cVs (zR h v).items := rfl;have hsm := kN0 (fun s : ByteArray => s.size + 1) (zR h v).names (ixI (zR h v).names s).toNat
  have hne : (jL (cutO (zR h v) s)).names = (zR h v).names.eraseIdx (ixI (zR h v).names s).toNat := by unfold jL;split <;> rfl
  have hie : (jL (cutO (zR h v) s)).items = (zR h v).items.eraseIdx (ixI (zR h v).names s).toNat := by unfold jL;split <;> rfl
  have hse : 0 ≤ (jL (cutO (zR h v) s)).state ∧ (jL (cutO (zR h v) s)).state ≤ 1099511627777 := by
   unfold jL;split
   ·show 0 ≤ (zR h v).state + 1 ∧ (zR h v).state + 1 ≤ _;omega
   ·show 0 ≤ (zR h v).state ∧ (zR h v).state ≤ _;omega
  refine zJ1 g hh hp hk ?_ ?_ ?_ ?_ hse ?_ ?_
  ·rw [hne];exact fun x hx => (mX hh v).ns x (List.mem_of_mem_eraseIdx hx)
  ·rw [hie];exact fun x hx => qP0 g hh v x (List.mem_of_mem_eraseIdx hx)
  ·rw [hne];exact Nat.le_trans (List.length_eraseIdx_le _ _) (by omega)
  ·rw [hie];exact Nat.le_trans (List.length_eraseIdx_le _ _) (by omega)
  ·rw [hne];omega
  ·unfold jL cutO;split <;> rfl
theorem zK1 {v : Vl} {s bar hook : ByteArray} {k : Nat} {args : List Vl} {fin : St × List Ob} (hv : Gc h v) (hw : hasS h v = true) (hs : s.size ≤ 100) (hb : bar.size ≤ 100) (ha : ∀ x ∈ args,Gc h x) (hl : args.length ≤ 2) (hf : wokS h v = true → Eg h fin.2 fin.1) :
  Eg h (chS h v s k bar hook args fin).2 (chS h v s k bar hook args fin).1 := by
 have hhl := hh.len;have hnz := cY g (wO g (gU0 g hw));have hz : qB.size = 1 ∧ nwaB.size = 28 ∧ atB.size = 11 := by decide
 have hbar : Eg h h (raS 36 (atB ++ s ++ bar)) := pC g hh hp (kP0 (by rw [ByteArray.size_append,ByteArray.size_append];omega));unfold chS chF;split
 ·exact pC g hh hp (kP0 (by rw [ByteArray.size_append,ByteArray.size_append];omega))
 ·rename_i hk;split
  ·exact hbar
  ·split
   ·exact pC g hh hp (bF0 (zI0 (qP0 g hh _) k) ha (by omega))
   ·split
    ·rename_i h3;have hcin := uZ g h3.1;have hfd : Gc h (chV h v s) := zH1 g hh (fun r hr => ((kW hh g hcin).2 r hr).1) s;have hsp := gc_sp g hh hfd hook;refine pC g hh hp (bF0 hsp.1 (fun x hx => ?_) (by have := hsp.2.2;rw [List.length_append];omega));rcases List.mem_append.1 hx with hx | hx
     ·exact hsp.2.1 x hx
     ·exact ha x hx
    ·split
     ·exact hbar
     ·exact hf (by rw [Bool.not_eq_false] at hk;exact hk)
end
set_option maxHeartbeats 4000000 in
theorem Law30_ok (h : List Ob) (v : Vl) (s : ByteArray) (w : Vl) (hh : HpIn h) (hiv : VlIn v) (hiw : VlIn w) : Fn Tryz.prog 4 [hpD md h,.agg (vlD v),.v (.string s),.agg (vlD w)] (.v (.bool true)) := by
 have hhl := hh.len;refine yL zN Tryz.func4 rfl rfl rfl rfl rfl rfl ?_;intro w0 s0 mx;refine zJ 100 ?_;refine zB ?_;refine zB (zE zN [] 200 rfl ?_);refine zH ?_;refine zV _ ((Usable_ok h [v,w] hh (fun u hu => by
   simp only [List.mem_cons,List.not_mem_nil,or_false] at hu;rcases hu with rfl | rfl
   ·exact hiv
   ·exact hiw) (by show 2 ≤ 2000000;decide)).args ⟨SubP.refl _,SubP.slrSl rfl,trivial⟩) rfl ?_
 refine zH ?_;refine yM _ (fun hg8 => NameText_ok _) rfl ?_;refine zH ?_;refine zC (zA (zS rfl (fun c1 => ?_) (fun c1 => ?_)))
 ·
  refine zJ 300 ?_;refine zM (zL ?_);exact FinV.ret rfl (SubP.refl _)
 ·have hu : mH h [v,w] = true ∧ uK s = true := by simpa using c1
  have hq : (qM h).1 = 0 ∧ hasS h v = true ∧ hasS h w = true := by
   have hu1 := hu.1;simp only [mH,Bool.and_eq_true,decide_eq_true_eq,List.all_cons,List.all_nil] at hu1;exact ⟨hu1.1,hu1.2.1,hu1.2.2.1⟩
  have g : Uh h := tJ0 hq.1;have hv := hq.2.1;have hs : s.size ≤ 100 := by have := gJ hu.2;omega
  have hgv := zG1 (bW0 hiv hv);have hgw := zG1 (bW0 hiw hq.2.2);have he : Eg h (setS h v s w).2 (setS h v s w).1 := zK1 g hh hq.1 hgv hv hs (by decide) (fun x hx => by
   simp only [List.mem_cons,List.not_mem_nil,or_false] at hx;rcases hx with rfl | rfl
   ·exact hgv
   ·exact hgw) (by show 2 ≤ 2;decide) (fun hk => eg_set g hh hq.1 hk hgw hs)
  have he2 : Eg h (delS h v s).2 (delS h v s).1 := zK1 g hh hq.1 hgv hv hs (by decide) (fun x hx => by rw [List.mem_singleton.1 hx];exact hgv) (by show 1 ≤ 2;decide) (fun hk => eg_del g hh hq.1 hk hv hs);have cE := Set_G h v s w hh g hv hs;have cD := ChangeF_G h v s w hh g hv hs;have cE2 := Delete_G h v s hh g hv hs;have cD2 := ChangeT_G h v s vl0 hh g hv hs;obtain ⟨H,hH⟩ : ∃ H,H = (setS h v s w).2 := ⟨_,rfl⟩;obtain ⟨R,hR⟩ : ∃ R,R = (setS h v s w).1 := ⟨_,rfl⟩;rw [← hH,← hR] at cE cD he;obtain ⟨H2,hH2⟩ : ∃ H,H = (delS h v s).2 := ⟨_,rfl⟩;obtain ⟨R2,hR2⟩ : ∃ R,R = (delS h v s).1 := ⟨_,rfl⟩;rw [← hH2,← hR2] at cE2 cD2 he2;clear hH hR hH2 hR2;refine zK (zA ?_);refine zB (zW zN [1025,1027] [[],[0],[],[0,1,2],[],[],(rgN 6),(rgN 7)] 400 yQ (by kernel_rfl) rfl ?_);refine zH ?_;refine yN _ _ (gE0 h hh) rfl ?_;refine zH ?_;refine yN _ _ (gE0 h hh) rfl ?_;refine zH ?_;refine zC (zA ?_);refine yO [2,4,5,7,9,10] [0,1,2,204,205] 410 [] [(201,.mrow 36 10 (.map h obD ob0)),(203,.mrow 36 10 (.map h obD ob0)),(204,.box 24 [.mo 201 h.length]),(205,.box 24 [.mo 203 h.length])] ?_;refine ⟨⟨yI,⟨SubO.mp rfl,SubO.mp rfl,⟨rfl,Sub.mo rfl,rfl,trivial⟩,⟨rfl,Sub.mo rfl,rfl,trivial⟩,yF⟩,rfl,rfl⟩,?_⟩;refine zB (zW zN [1031,1035] [[],[],[],[0,1,2],[],[],[],(rgN 7),[],[],(rgN 10),(rgN 11)] 500 yQ (by kernel_rfl) rfl ?_);refine zH ?_;refine yN _ _ (cE) (xT0 _ _) ?_;refine zH ?_;refine yN _ _ (cD) (xT0 _ _) ?_;refine zH ?_;refine zC (zA (zB ?_));refine yO [2,4,5,9,10,11,12] [0,1] 510 [] [(201,.mrow 36 10 (.map H obD ob0)),(203,.mrow 36 10 (.map H obD ob0)),(204,.box 24 [.mo 201 H.length]),(205,.box 24 [.mo 203 H.length]),(418,.box 43 (stD R)),(419,.box 43 (stD R))] ?_;refine ⟨⟨yI,⟨SubO.mp rfl,SubO.mp rfl,⟨rfl,Sub.mo rfl,rfl,trivial⟩,⟨rfl,Sub.mo rfl,rfl,trivial⟩,⟨rfl,SubL.same rfl⟩,⟨rfl,SubL.same rfl⟩,yF⟩,rfl,rfl⟩,?_⟩;refine jI 201 rfl (by repeat (first | exact trivial | exact rfl | exact (fun _ => rfl) | exact (fun h => absurd h (by decide)) | refine ⟨?_,?_⟩)) (by repeat (first | exact trivial | exact rfl | exact (fun _ => rfl) | exact (fun h => absurd h (by decide)) | refine ⟨?_,?_⟩)) ?_;refine jI 203 rfl (by repeat (first | exact trivial | exact rfl | exact (fun _ => rfl) | exact (fun h => absurd h (by decide)) | refine ⟨?_,?_⟩)) (by repeat (first | exact trivial | exact rfl | exact (fun _ => rfl) | exact (fun h => absurd h (by decide)) | refine ⟨?_,?_⟩)) ?_;refine yO [2,4,5,9,10,11,12] [0,1] 520 [] [(204,.box 24 [.sl false 10 (H) obD ob0]),(205,.box 24 [.sl false 10 (H) obD ob0]),(418,.box 43 (stD R)),(419,.box 43 (stD R))] ?_;refine ⟨⟨yI,⟨⟨rfl,Sub.ownSl rfl,rfl,trivial⟩,⟨rfl,Sub.ownSl rfl,rfl,trivial⟩,⟨rfl,SubL.same rfl⟩,⟨rfl,SubL.same rfl⟩,yF⟩,rfl,rfl⟩,?_⟩;refine zB (zE zN [] 600 rfl ?_);refine zH ?_;refine zV _ ((vZ h H R H R hhl he.st he.st he.sk he.sk).out (SubP.bool (tH he.len))) rfl ?_;refine zH ?_;refine zC (zA ?_);refine xL0 rfl ?_;refine zK (zA ?_);refine zB (zW zN [1044,1046] [[],[0],[],[0,1,2],[0,1,2,3],(rgN 5)] 800 yQ (by kernel_rfl) rfl ?_);refine zH ?_;refine yN _ _ (gE0 h hh) rfl ?_;refine zH ?_;refine yN _ _ (gE0 h hh) rfl ?_;refine zH ?_;refine zC (zA ?_);refine yO [2,4,5,9,10,11,12] [0,1] 810 [] [(601,.mrow 36 10 (.map h obD ob0)),(603,.mrow 36 10 (.map h obD ob0)),(204,.box 24 [.mo 601 h.length]),(205,.box 24 [.mo 603 h.length]),(418,.box 43 (stD R)),(419,.box 43 (stD R))] ?_;refine ⟨⟨yI,⟨SubO.mp rfl,SubO.mp rfl,⟨rfl,Sub.mo rfl,rfl,trivial⟩,⟨rfl,Sub.mo rfl,rfl,trivial⟩,⟨rfl,SubL.same rfl⟩,⟨rfl,SubL.same rfl⟩,yF⟩,rfl,rfl⟩,?_⟩;refine zB (zW zN [1049,1053] [[],[],[0,1],[],[],[],(rgN 6),(rgN 7),(rgN 8)] 900 yQ (by kernel_rfl) rfl ?_);refine zH ?_;refine yN _ _ (cE2) (xT0 _ _) ?_;refine zH ?_;refine yN _ _ (cD2.args ⟨Sub.refl _,Sub.refl _,Sub.refl _,Sub.ofP (SubP.agg (by repeat (first | exact trivial | exact SubP.refl _ | exact SubP.nilSl rfl | refine ⟨?_,?_⟩))) rfl rfl,Sub.refl _,trivial⟩) (xT0 _ _) ?_;refine zH ?_;refine zC (zA ?_);refine yO [4,9,10,11,12] [0] 910 [] [(601,.mrow 36 10 (.map H2 obD ob0)),(603,.mrow 36 10 (.map H2 obD ob0)),(204,.box 24 [.mo 601 H2.length]),(205,.box 24 [.mo 603 H2.length]),(418,.box 43 (stD R2)),(419,.box 43 (stD R2))] ?_;refine ⟨⟨yI,⟨SubO.mp rfl,SubO.mp rfl,⟨rfl,Sub.mo rfl,rfl,trivial⟩,⟨rfl,Sub.mo rfl,rfl,trivial⟩,⟨rfl,SubL.same rfl⟩,⟨rfl,SubL.same rfl⟩,yF⟩,rfl,rfl⟩,?_⟩;refine jI 601 rfl (by repeat (first | exact trivial | exact rfl | exact (fun _ => rfl) | exact (fun h => absurd h (by decide)) | refine ⟨?_,?_⟩)) (by repeat (first | exact trivial | exact rfl | exact (fun _ => rfl) | exact (fun h => absurd h (by decide)) | refine ⟨?_,?_⟩)) ?_;refine jI 603 rfl (by repeat (first | exact trivial | exact rfl | exact (fun _ => rfl) | exact (fun h => absurd h (by decide)) | refine ⟨?_,?_⟩)) (by repeat (first | exact trivial | exact rfl | exact (fun _ => rfl) | exact (fun h => absurd h (by decide)) | refine ⟨?_,?_⟩)) ?_;refine yO [4,9,10,11,12] [0] 920 [] [(204,.box 24 [.sl false 10 (H2) obD ob0]),(205,.box 24 [.sl false 10 (H2) obD ob0]),(418,.box 43 (stD R2)),(419,.box 43 (stD R2))] ?_;refine ⟨⟨yI,⟨⟨rfl,Sub.ownSl rfl,rfl,trivial⟩,⟨rfl,Sub.ownSl rfl,rfl,trivial⟩,⟨rfl,SubL.same rfl⟩,⟨rfl,SubL.same rfl⟩,yF⟩,rfl,rfl⟩,?_⟩;refine zB (zE zN [] 1000 rfl ?_);refine zH ?_;refine zV _ (vZ h H2 R2 H2 R2 hhl he2.st he2.st he2.sk he2.sk) rfl ?_;refine zH ?_;refine zC (zA (zM ?_));exact FinV.ret rfl (SubP.bool (tH he2.len))
open Go.ChangeShapes Go.WideShapes Go.ChangeAt Go.RowKit Go.Deep
theorem xV0 {H : Type} {d : DataW H} {l : List (DataW H)} (h : d ∈ l) : Rows.uptoBulk d ≤ Rows.uptoBulkAll l := by
 induction l with
 | nil => cases h
 | cons x r ih =>
  simp only [Rows.uptoBulkAll]
  cases List.mem_cons.1 h with
  | inl e => subst e;omega
  | inr e => have := ih e;omega
theorem bulk_one {H : Type} (d : DataW H) : 1 ≤ Rows.uptoBulk d := by
 cases d with
 | lit l => cases l <;> simp [Rows.uptoBulk]
 | nil => simp [Rows.uptoBulk]
 | ptr d => simp [Rows.uptoBulk]
 | slice elems spare => simp [Rows.uptoBulk]
 | agg parts => simp [Rows.uptoBulk]
 | iface t d => simp [Rows.uptoBulk]
 | map entries => simp [Rows.uptoBulk]
 | held h => simp [Rows.uptoBulk]
theorem bulk_length {H : Type} (l : List (DataW H)) : l.length ≤ Rows.uptoBulkAll l := by
 induction l with
 | nil => simp [Rows.uptoBulkAll]
 | cons x r ih => have := bulk_one x;simp only [Rows.uptoBulkAll,List.length_cons];omega
theorem qH {H : Type} {l : List (DataW H × List MemPlace)} {i : Nat} {y : DataW H × List MemPlace} (h : l[i]? = some y) {n : Nat} (hn : Rows.uptoBulk (DataW.agg (l.map (·.1))) ≤ n) : Rows.uptoBulk y.1 ≤ n := by
 have h1 : y.1 ∈ l.map (·.1) := List.mem_map.2 ⟨y,List.mem_of_getElem? h,rfl⟩;have h2 := xV0 h1;simp only [Rows.uptoBulk] at hn;omega
def sW (W : World) : Sb := ⟨fun b _ => b < W.heap.size,fun b _ => b < W.heap.size,fun _ _ h => h⟩
def I64 (x : Int) : Prop := -9223372036854775808 ≤ x ∧ x ≤ 9223372036854775807
theorem i64_wf {x : Int} (h : (Lit.int .i64 x).wf = true) : I64 x := by
 simp [Lit.wf] at h;have h1 : IntKind.i64.min = -9223372036854775808 := by decide
 have h2 : IntKind.i64.max = 9223372036854775807 := by decide
 unfold I64;omega
theorem u32_wf {x : Int} (h : (Lit.int .u32 x).wf = true) : 0 ≤ x ∧ x < 4294967296 := by
 simp [Lit.wf] at h;have h1 : IntKind.u32.min = 0 := by decide
 have h2 : IntKind.u32.max = 4294967295 := by decide
 omega
def Opn {H : Type} (enc : TypeId × Value → H) (P : Program) (W : World) (t : TypeId) {α : Type} (f : α → List D) (Q : α → Nat → Prop) : Prop :=
 ∀ (fuel : Nat) (cs : List Value) (d : DataW H) (ps : List MemPlace),cs.length = P.cellsOf t → DataW.trod enc P W 0 (fun _ => true) true fuel t cs = some (d,ps) →
  ∃ x,AllV W (sW W) (D.pvs (f x)) cs ∧ (∀ c ∈ cs,c.oneCell' = true) ∧ ∀ n,Rows.uptoBulk d ≤ n → Q x n
section
variable {H : Type} {enc : TypeId × Value → H} {P : Program} {W : World}
theorem mV {c : Value} (h : c.oneCell' = true) : ∀ x ∈ [c],x.oneCell' = true := fun x hx => by rw [List.mem_singleton] at hx;rw [hx];exact h
theorem Opn.int {t : TypeId} (ht : P.underlying t = some (.int .i64)) : Opn enc P W t iD (fun x _ => I64 x) := by
 intro fuel cs d ps _ h;obtain ⟨k,rfl,_,wf⟩ := DataW.trod_int ht h;exact ⟨k,⟨rfl,trivial⟩,mV rfl,fun _ _ => i64_wf wf⟩
theorem Opn.u32 {t : TypeId} (ht : P.underlying t = some (.int .u32)) : Opn enc P W t uD (fun x _ => x < 4294967296) := by
 intro fuel cs d ps _ h;obtain ⟨k,rfl,_,wf⟩ := DataW.trod_int ht h;have h1 := u32_wf wf;refine ⟨k.toNat,⟨?_,trivial⟩,mV rfl,fun _ _ => by omega⟩;show Value.int .u32 k = .int .u32 (k.toNat : Nat);rw [Int.toNat_of_nonneg h1.1]
theorem Opn.bool {t : TypeId} (ht : P.underlying t = some .bool) : Opn enc P W t (fun b : Bool => [.v (.bool b)]) (fun _ _ => True) := by
 intro fuel cs d ps _ h;obtain ⟨k,rfl,_⟩ := DataW.trod_bool ht h;exact ⟨k,⟨rfl,trivial⟩,mV rfl,fun _ _ => trivial⟩
theorem Opn.str {t : TypeId} (ht : P.underlying t = some .string) : Opn enc P W t sD (fun s n => s.size ≤ n) := by
 intro fuel cs d ps _ h;obtain ⟨k,rfl,hx,_⟩ := DataW.trod_string ht h;refine ⟨k,⟨rfl,trivial⟩,mV rfl,fun n hn => ?_⟩;simp only [Prod.mk.injEq] at hx;rw [hx.1] at hn;simp only [Rows.uptoBulk] at hn;have e : k.data.toList.length = k.size := by rw [Array.length_toList];rfl
 omega
theorem Opn.sl {α : Type} {f : α → List D} {Q : α → Nat → Prop} {t e : TypeId} {sz : Nat} (e0 : α) (ht : P.underlying t = some (.slice e)) (hc : P.cellsOf e = sz) (hz : 0 < sz) (he : Opn enc P W e f Q) :
  Opn enc P W t (fun l => [.sl false sz l f e0]) (fun l n => l.length ≤ n ∧ ∀ x ∈ l,Q x n) := by
 intro fuel cs d ps _ h;rcases open_slice ht h with ⟨rfl,hx⟩ | ⟨a,len,cap,m,n,D',Pl,rfl,_,hl,hm,hmm,hx,hel⟩
 ·exact ⟨[],⟨PV.sl_nil,trivial⟩,mV rfl,fun _ _ => ⟨Nat.zero_le _,fun x hx => by cases hx⟩⟩
 ·simp only [if_true] at hmm;subst hmm;have hq : ∀ i,i < len → ∃ x : α,∃ cs',W.cells? 0 (a.add (i * sz)) sz = some cs' ∧ AllV W (sW W) (D.pvs (f x)) cs' ∧ (∀ c ∈ cs',c.oneCell' = true) ∧ ∀ n,Rows.uptoBulk (D' i) ≤ n → Q x n := fun i hi => by
   obtain ⟨cs',h1,h2⟩ := hel i (by omega);rw [hc] at h1;obtain ⟨_,hlen,_⟩ := World.cells?_some h1;obtain ⟨x,hx1,hx2,hx3⟩ := he n cs' (D' i) (Pl i) (by omega) h2;exact ⟨x,cs',h1,hx1,hx2,hx3⟩
  obtain ⟨g,hg⟩ : ∃ g : Nat → α,∀ i,i < len → ∃ cs',W.cells? 0 (a.add (i * sz)) sz = some cs' ∧ AllV W (sW W) (D.pvs (f (g i))) cs' ∧ (∀ c ∈ cs',c.oneCell' = true) ∧ ∀ n,Rows.uptoBulk (D' i) ≤ n → Q (g i) n :=
   ⟨fun i => if h : i < len then Classical.choose (hq i h) else e0,fun i hi => by simp only [dif_pos hi];exact Classical.choose_spec (hq i hi)⟩
  have hrl : (((List.range len).map g).map fun a => D.pvs (f a)).length = len := by simp
  refine ⟨(List.range len).map g,⟨⟨some a,m,?_,?_,?_,?_,?_⟩,trivial⟩,mV rfl,fun n hn => ?_⟩
  ·show Value.slice (some a) len m = Value.slice (some a) (((List.range len).map g).map fun a => D.pvs (f a)).length m;rw [hrl]
  ·show (((List.range len).map g).map fun a => D.pvs (f a)).length ≤ m;rw [hrl];exact hl
  ·have : maxLen = 9223372036854775807 := by decide
   omega
  ·intro row hrow;have hrow : row ∈ ((List.range len).map g).map fun a => D.pvs (f a) := hrow;rw [List.map_map] at hrow;obtain ⟨i,hi,rfl⟩ := List.mem_map.1 hrow;obtain ⟨cs',h1,h2,-⟩ := hg i (List.mem_range.1 hi);have h3 := h2.length;obtain ⟨_,h4,_⟩ := World.cells?_some h1;show (D.pvs (f (g i))).length = sz;omega
  ·intro i row hrow;have hrow : (((List.range len).map g).map fun a => D.pvs (f a))[i]? = some row := hrow;rw [List.map_map,List.getElem?_map] at hrow;obtain ⟨j,hj,rfl⟩ := Option.map_eq_some_iff.1 hrow;have hi : i < len := by have := (List.getElem?_eq_some_iff.1 hj).1;simpa using this
   rw [List.getElem?_range hi] at hj
   cases hj;obtain ⟨cs',h1,h2,h3,-⟩ := hg i hi;obtain ⟨_,h4,h5⟩ := World.cells?_some h1;obtain ⟨b,off,spot⟩ := a
   cases spot with
   | some sp =>
    obtain ⟨cs0,k1,-⟩ := hg 0 (by omega);obtain ⟨_,k4,k5⟩ := World.cells?_some k1;have h6 := k5 0 hz;rw [List.getElem?_eq_getElem (by omega)] at h6;have := World.cell?_spot h6;simp [Addr.add] at this
   | none =>
    refine ⟨b,off,rfl,fun j d hd => ?_⟩;obtain ⟨v,hv,hp⟩ := h2.get hd;have hj : j < cs'.length := (List.getElem?_eq_some_iff.1 hv).1;have h6 := h5 j (by omega);rw [hv] at h6;have h7 : W.cell? ⟨b,off + i * sz + j,none⟩ = some v := by rw [add_plain,add_plain] at h6;exact h6
    exact ⟨v,h7,(World.block_lt_of_cell? _ _ h7 : b < W.heap.size),hp,h3 v (List.mem_of_getElem? hv)⟩
  ·simp only [Prod.mk.injEq] at hx;rw [hx.1] at hn;simp only [Rows.uptoBulk] at hn;have h1 := bulk_length ((List.range len).map D');simp only [List.length_map,List.length_range] at h1;refine ⟨by simp;omega,fun x hx => ?_⟩;obtain ⟨i,hi,rfl⟩ := List.mem_map.1 hx;obtain ⟨cs',-,-,-,h4⟩ := hg i (List.mem_range.1 hi);exact h4 n (by have := xV0 (d := D' i) (l := (List.range len).map D') (List.mem_map.2 ⟨i,hi,rfl⟩);omega)
end
theorem list5 {α : Type} {l : List α} (h : l.length = 5) : ∃ c0 c1 c2 c3 c4,l = [c0,c1,c2,c3,c4] := by
 match l,h with
 | [c0,c1,c2,c3,c4],_ => exact ⟨c0,c1,c2,c3,c4,rfl⟩
theorem list7 {α : Type} {l : List α} (h : l.length = 7) : ∃ c0 c1 c2 c3 c4 c5 c6,l = [c0,c1,c2,c3,c4,c5,c6] := by
 match l,h with
 | [c0,c1,c2,c3,c4,c5,c6],_ => exact ⟨c0,c1,c2,c3,c4,c5,c6,rfl⟩
theorem bP0 {α : Type} {l : List α} (h : l.length = 10) : ∃ c0 c1 c2 c3 c4 c5 c6 c7 c8 c9,l = [c0,c1,c2,c3,c4,c5,c6,c7,c8,c9] := by
 match l,h with
 | [c0,c1,c2,c3,c4,c5,c6,c7,c8,c9],_ => exact ⟨c0,c1,c2,c3,c4,c5,c6,c7,c8,c9,rfl⟩
theorem jF {W : World} {s : Sb} {d : D} {c : Value} (h : AllV W s (D.pvs [d]) [c]) : d.pv.p W s c := h.1
section
variable {H : Type} {enc : TypeId × Value → H} {W : World}
def intD (p : Bool × List Nat) : List D := [.v (.bool p.1),usD p.2]
set_option maxRecDepth 100000 in
theorem Opn.bigI : Opn enc Tryz.prog W 27 intD (fun p n => p.2.length ≤ n ∧ ∀ x ∈ p.2,x < 4294967296) := by
 intro fuel cs d ps hl h;have e4 : Tryz.prog.cellsOf 4 = 1 := by kernel_rfl
 have e22 : Tryz.prog.cellsOf 25 = 1 := by kernel_rfl
 have eI : Tryz.prog.cellsOf 27 = 2 := by kernel_rfl
 rw [eI] at hl
 match cs,hl with
 | [c0,c1],_ =>
  obtain ⟨xs,n1,_,hx,_,hlen,hg⟩ := DataW.trod_struct Tryz.underlying27 h
  match xs,hlen with
  | [y0,y1],_ =>
   have g0 : DataW.trod enc Tryz.prog W 0 (fun _ => true) true n1 4 (([c0,c1].drop 0).take (Tryz.prog.cellsOf 4)) = some y0 := hg 0 _ rfl;rw [e4] at g0
   replace g0 : DataW.trod enc Tryz.prog W 0 (fun _ => true) true n1 4 [c0] = some y0 := g0
   have g1 : DataW.trod enc Tryz.prog W 0 (fun _ => true) true n1 25 (([c0,c1].drop 1).take (Tryz.prog.cellsOf 25)) = some y1 := hg 1 _ rfl;rw [e22] at g1
   replace g1 : DataW.trod enc Tryz.prog W 0 (fun _ => true) true n1 25 [c1] = some y1 := g1
   obtain ⟨x0,a0,o0,q0⟩ := Opn.bool Tryz.underlying4 _ _ y0.1 y0.2 (by rw [e4];rfl) g0;obtain ⟨x1,a1,o1,q1⟩ := Opn.sl 0 Tryz.underlying25 (sz := 1) (by kernel_rfl) (by decide) (Opn.u32 Tryz.underlying102) _ _ y1.1 y1.2 (by rw [e22];rfl) g1;simp only [Prod.mk.injEq] at hx;refine ⟨(x0,x1),⟨jF a0,jF a1,trivial⟩,fun c hc => ?_,fun n hn => ?_⟩
   ·simp only [List.mem_cons,List.not_mem_nil,or_false] at hc;rcases hc with rfl | rfl
    ·exact o0 _ (by simp)
    ·exact o1 _ (by simp)
   ·rw [hx.1] at hn;exact q1 n (qH (i := 1) (y := y1) rfl hn)
set_option maxRecDepth 100000 in
theorem Opn.val : Opn enc Tryz.prog W 29 vlD (fun v n => n ≤ 1048576 → VlIn v) := by
 intro fuel cs d ps hl h;have e3 : Tryz.prog.cellsOf 3 = 1 := by kernel_rfl
 have e9 : Tryz.prog.cellsOf 9 = 1 := by kernel_rfl
 have e24 : Tryz.prog.cellsOf 27 = 2 := by kernel_rfl
 have eV : Tryz.prog.cellsOf 29 = 7 := by kernel_rfl
 rw [eV] at hl;obtain ⟨c0,c1,c2,c3,c4,c5,c6,rfl⟩ := list7 hl;obtain ⟨xs,n1,_,hx,_,hlen,hg⟩ := DataW.trod_struct Tryz.underlying29 h;obtain ⟨y0,y1,y2,y3,y4,rfl⟩ := list5 hlen;have g0 : DataW.trod enc Tryz.prog W 0 (fun _ => true) true n1 3 (([c0,c1,c2,c3,c4,c5,c6].drop 0).take (Tryz.prog.cellsOf 3)) = some y0 := hg 0 _ rfl;rw [e3] at g0
 replace g0 : DataW.trod enc Tryz.prog W 0 (fun _ => true) true n1 3 [c0] = some y0 := g0
 have g1 : DataW.trod enc Tryz.prog W 0 (fun _ => true) true n1 27 (([c0,c1,c2,c3,c4,c5,c6].drop 1).take (Tryz.prog.cellsOf 27)) = some y1 := hg 1 _ rfl;rw [e24] at g1
 replace g1 : DataW.trod enc Tryz.prog W 0 (fun _ => true) true n1 27 [c1,c2] = some y1 := g1
 have g2 : DataW.trod enc Tryz.prog W 0 (fun _ => true) true n1 27 (([c0,c1,c2,c3,c4,c5,c6].drop 3).take (Tryz.prog.cellsOf 27)) = some y2 := hg 2 _ rfl;rw [e24] at g2
 replace g2 : DataW.trod enc Tryz.prog W 0 (fun _ => true) true n1 27 [c3,c4] = some y2 := g2
 have g3 : DataW.trod enc Tryz.prog W 0 (fun _ => true) true n1 9 (([c0,c1,c2,c3,c4,c5,c6].drop 5).take (Tryz.prog.cellsOf 9)) = some y3 := hg 3 _ rfl;rw [e9] at g3
 replace g3 : DataW.trod enc Tryz.prog W 0 (fun _ => true) true n1 9 [c5] = some y3 := g3
 have g4 : DataW.trod enc Tryz.prog W 0 (fun _ => true) true n1 3 (([c0,c1,c2,c3,c4,c5,c6].drop 6).take (Tryz.prog.cellsOf 3)) = some y4 := hg 4 _ rfl;rw [e3] at g4
 replace g4 : DataW.trod enc Tryz.prog W 0 (fun _ => true) true n1 3 [c6] = some y4 := g4
 obtain ⟨x0,a0,o0,q0⟩ := Opn.int Tryz.underlying3 _ _ y0.1 y0.2 (by rw [e3];rfl) g0;obtain ⟨x1,a1,o1,q1⟩ := Opn.bigI _ _ y1.1 y1.2 (by rw [e24];rfl) g1;obtain ⟨x2,a2,o2,q2⟩ := Opn.bigI _ _ y2.1 y2.2 (by rw [e24];rfl) g2;obtain ⟨x3,a3,o3,q3⟩ := Opn.str Tryz.underlying9 _ _ y3.1 y3.2 (by rw [e9];rfl) g3;obtain ⟨x4,a4,o4,q4⟩ := Opn.int Tryz.underlying3 _ _ y4.1 y4.2 (by rw [e3];rfl) g4;simp only [Prod.mk.injEq] at hx;refine ⟨⟨x0,x1.1,x1.2,x2.1,x2.2,x3,x4⟩,⟨jF a0,a1.1,a1.2.1,a2.1,a2.2.1,jF a3,jF a4,trivial⟩,fun c hc => ?_,fun n hn hn2 => ?_⟩
 ·simp only [List.mem_cons,List.not_mem_nil,or_false] at hc;rcases hc with rfl | rfl | rfl | rfl | rfl | rfl | rfl
  ·exact o0 _ (by simp)
  ·exact o1 _ (by simp)
  ·exact o1 _ (by simp)
  ·exact o2 _ (by simp)
  ·exact o2 _ (by simp)
  ·exact o3 _ (by simp)
  ·exact o4 _ (by simp)
 ·rw [hx.1] at hn;have b0 := q0 n (qH (i := 0) (y := y0) rfl hn);have b1 := q1 n (qH (i := 1) (y := y1) rfl hn);have b2 := q2 n (qH (i := 2) (y := y2) rfl hn);have b3 := q3 n (qH (i := 3) (y := y3) rfl hn);have b4 := q4 n (qH (i := 4) (y := y4) rfl hn);exact ⟨b0.1,b0.2,b4.1,b4.2,b1.2,b2.2,by show x1.2.length ≤ _;omega,by show x2.2.length ≤ _;omega,by show x3.size ≤ _;omega⟩
set_option maxRecDepth 100000 in
theorem Opn.obj : Opn enc Tryz.prog W 36 obD (fun o n => n ≤ 1048576 → ObIn o) := by
 intro fuel cs d ps hl h;have e3 : Tryz.prog.cellsOf 3 = 1 := by kernel_rfl
 have e9 : Tryz.prog.cellsOf 9 = 1 := by kernel_rfl
 have eI : Tryz.prog.cellsOf 32 = 1 := by kernel_rfl
 have eS : Tryz.prog.cellsOf 33 = 1 := by kernel_rfl
 have eV : Tryz.prog.cellsOf 34 = 1 := by kernel_rfl
 have eO : Tryz.prog.cellsOf 36 = 10 := by kernel_rfl
 rw [eO] at hl;obtain ⟨c0,c1,c2,c3,c4,c5,c6,c7,c8,c9,rfl⟩ := bP0 hl;obtain ⟨xs,n1,_,hx,_,hlen,hg⟩ := DataW.trod_struct Tryz.underlying36 h;obtain ⟨y0,y1,y2,y3,y4,y5,y6,y7,y8,y9,rfl⟩ := bP0 hlen;have g0 : DataW.trod enc Tryz.prog W 0 (fun _ => true) true n1 3 (([c0,c1,c2,c3,c4,c5,c6,c7,c8,c9].drop 0).take (Tryz.prog.cellsOf 3)) = some y0 := hg 0 _ rfl;rw [e3] at g0
 replace g0 : DataW.trod enc Tryz.prog W 0 (fun _ => true) true n1 3 [c0] = some y0 := g0
 have g1 : DataW.trod enc Tryz.prog W 0 (fun _ => true) true n1 9 (([c0,c1,c2,c3,c4,c5,c6,c7,c8,c9].drop 1).take (Tryz.prog.cellsOf 9)) = some y1 := hg 1 _ rfl;rw [e9] at g1
 replace g1 : DataW.trod enc Tryz.prog W 0 (fun _ => true) true n1 9 [c1] = some y1 := g1
 have g2 : DataW.trod enc Tryz.prog W 0 (fun _ => true) true n1 3 (([c0,c1,c2,c3,c4,c5,c6,c7,c8,c9].drop 2).take (Tryz.prog.cellsOf 3)) = some y2 := hg 2 _ rfl;rw [e3] at g2
 replace g2 : DataW.trod enc Tryz.prog W 0 (fun _ => true) true n1 3 [c2] = some y2 := g2
 have g3 : DataW.trod enc Tryz.prog W 0 (fun _ => true) true n1 32 (([c0,c1,c2,c3,c4,c5,c6,c7,c8,c9].drop 3).take (Tryz.prog.cellsOf 32)) = some y3 := hg 3 _ rfl;rw [eI] at g3
 replace g3 : DataW.trod enc Tryz.prog W 0 (fun _ => true) true n1 32 [c3] = some y3 := g3
 have g4 : DataW.trod enc Tryz.prog W 0 (fun _ => true) true n1 32 (([c0,c1,c2,c3,c4,c5,c6,c7,c8,c9].drop 4).take (Tryz.prog.cellsOf 32)) = some y4 := hg 4 _ rfl;rw [eI] at g4
 replace g4 : DataW.trod enc Tryz.prog W 0 (fun _ => true) true n1 32 [c4] = some y4 := g4
 have g5 : DataW.trod enc Tryz.prog W 0 (fun _ => true) true n1 33 (([c0,c1,c2,c3,c4,c5,c6,c7,c8,c9].drop 5).take (Tryz.prog.cellsOf 33)) = some y5 := hg 5 _ rfl;rw [eS] at g5
 replace g5 : DataW.trod enc Tryz.prog W 0 (fun _ => true) true n1 33 [c5] = some y5 := g5
 have g6 : DataW.trod enc Tryz.prog W 0 (fun _ => true) true n1 34 (([c0,c1,c2,c3,c4,c5,c6,c7,c8,c9].drop 6).take (Tryz.prog.cellsOf 34)) = some y6 := hg 6 _ rfl;rw [eV] at g6
 replace g6 : DataW.trod enc Tryz.prog W 0 (fun _ => true) true n1 34 [c6] = some y6 := g6
 have g7 : DataW.trod enc Tryz.prog W 0 (fun _ => true) true n1 34 (([c0,c1,c2,c3,c4,c5,c6,c7,c8,c9].drop 7).take (Tryz.prog.cellsOf 34)) = some y7 := hg 7 _ rfl;rw [eV] at g7
 replace g7 : DataW.trod enc Tryz.prog W 0 (fun _ => true) true n1 34 [c7] = some y7 := g7
 have g8 : DataW.trod enc Tryz.prog W 0 (fun _ => true) true n1 3 (([c0,c1,c2,c3,c4,c5,c6,c7,c8,c9].drop 8).take (Tryz.prog.cellsOf 3)) = some y8 := hg 8 _ rfl;rw [e3] at g8
 replace g8 : DataW.trod enc Tryz.prog W 0 (fun _ => true) true n1 3 [c8] = some y8 := g8
 have g9 : DataW.trod enc Tryz.prog W 0 (fun _ => true) true n1 3 (([c0,c1,c2,c3,c4,c5,c6,c7,c8,c9].drop 9).take (Tryz.prog.cellsOf 3)) = some y9 := hg 9 _ rfl;rw [e3] at g9
 replace g9 : DataW.trod enc Tryz.prog W 0 (fun _ => true) true n1 3 [c9] = some y9 := g9
 obtain ⟨x0,a0,o0,q0⟩ := Opn.int Tryz.underlying3 _ _ y0.1 y0.2 (by rw [e3];rfl) g0;obtain ⟨x1,a1,o1,q1⟩ := Opn.str Tryz.underlying9 _ _ y1.1 y1.2 (by rw [e9];rfl) g1;obtain ⟨x2,a2,o2,q2⟩ := Opn.int Tryz.underlying3 _ _ y2.1 y2.2 (by rw [e3];rfl) g2;obtain ⟨x3,a3,o3,q3⟩ := Opn.sl 0 Tryz.underlying32 (sz := 1) (by kernel_rfl) (by decide) (Opn.int Tryz.underlying3) _ _ y3.1 y3.2 (by rw [eI];rfl) g3;obtain ⟨x4,a4,o4,q4⟩ := Opn.sl 0 Tryz.underlying32 (sz := 1) (by kernel_rfl) (by decide) (Opn.int Tryz.underlying3) _ _ y4.1 y4.2 (by rw [eI];rfl) g4;obtain ⟨x5,a5,o5,q5⟩ := Opn.sl ByteArray.empty Tryz.underlying33 (sz := 1) (by kernel_rfl) (by decide) (Opn.str Tryz.underlying9) _ _ y5.1 y5.2 (by rw [eS];rfl) g5;obtain ⟨x6,a6,o6,q6⟩ := Opn.sl vl0 Tryz.underlying34 (sz := 7) (by kernel_rfl) (by decide) Opn.val _ _ y6.1 y6.2 (by rw [eV];rfl) g6;obtain ⟨x7,a7,o7,q7⟩ := Opn.sl vl0 Tryz.underlying34 (sz := 7) (by kernel_rfl) (by decide) Opn.val _ _ y7.1 y7.2 (by rw [eV];rfl) g7;obtain ⟨x8,a8,o8,q8⟩ := Opn.int Tryz.underlying3 _ _ y8.1 y8.2 (by rw [e3];rfl) g8;obtain ⟨x9,a9,o9,q9⟩ := Opn.int Tryz.underlying3 _ _ y9.1 y9.2 (by rw [e3];rfl) g9;simp only [Prod.mk.injEq] at hx;refine ⟨⟨x0,x1,x2,x3,x4,x5,x6,x7,x8,x9⟩,⟨jF a0,jF a1,jF a2,jF a3,jF a4,jF a5,jF a6,jF a7,jF a8,jF a9,trivial⟩,fun c hc => ?_,fun n hn hn2 => ?_⟩
 ·simp only [List.mem_cons,List.not_mem_nil,or_false] at hc;rcases hc with rfl | rfl | rfl | rfl | rfl | rfl | rfl | rfl | rfl | rfl
  ·exact o0 _ (by simp)
  ·exact o1 _ (by simp)
  ·exact o2 _ (by simp)
  ·exact o3 _ (by simp)
  ·exact o4 _ (by simp)
  ·exact o5 _ (by simp)
  ·exact o6 _ (by simp)
  ·exact o7 _ (by simp)
  ·exact o8 _ (by simp)
  ·exact o9 _ (by simp)
 ·rw [hx.1] at hn;have b0 := q0 n (qH (i := 0) (y := y0) rfl hn);have b1 := q1 n (qH (i := 1) (y := y1) rfl hn);have b2 := q2 n (qH (i := 2) (y := y2) rfl hn);have b3 := q3 n (qH (i := 3) (y := y3) rfl hn);have b4 := q4 n (qH (i := 4) (y := y4) rfl hn);have b5 := q5 n (qH (i := 5) (y := y5) rfl hn);have b6 := q6 n (qH (i := 6) (y := y6) rfl hn);have b7 := q7 n (qH (i := 7) (y := y7) rfl hn);have b8 := q8 n (qH (i := 8) (y := y8) rfl hn);have b9 := q9 n (qH (i := 9) (y := y9) rfl hn)
  exact ⟨b0,b2,b8,b9,by show x1.size ≤ _;omega,by show x3.length ≤ _;omega,by show x4.length ≤ _;omega,by show x5.length ≤ _;omega,by show x6.length ≤ _;omega,by show x7.length ≤ _;omega,
   fun s hs => by have := b5.2 s hs;omega,fun v hv => b6.2 v hv hn2,fun v hv => b7.2 v hv hn2⟩
def hpL (h : List Ob) : List D := [.sl false 10 h obD ob0]
set_option maxRecDepth 100000 in
theorem Opn.heap : Opn enc Tryz.prog W 24 hpL (fun h n => n ≤ 1048576 → HpIn h) := by
 intro fuel cs d ps hl h;have eH : Tryz.prog.cellsOf 24 = 1 := by kernel_rfl
 have eO : Tryz.prog.cellsOf 22 = 1 := by kernel_rfl
 rw [eH] at hl
 match cs,hl with
 | [c0],_ =>
  obtain ⟨xs,n1,_,hx,_,hlen,hg⟩ := DataW.trod_struct Tryz.underlying24 h
  match xs,hlen with
  | [y0],_ =>
   have g0 : DataW.trod enc Tryz.prog W 0 (fun _ => true) true n1 22 (([c0].drop 0).take (Tryz.prog.cellsOf 22)) = some y0 := hg 0 _ rfl;rw [eO] at g0
   replace g0 : DataW.trod enc Tryz.prog W 0 (fun _ => true) true n1 22 [c0] = some y0 := g0
   obtain ⟨x0,a0,o0,q0⟩ := Opn.sl ob0 Tryz.underlying22 (sz := 10) (by kernel_rfl) (by decide) Opn.obj _ _ y0.1 y0.2 (by rw [eO];rfl) g0;simp only [Prod.mk.injEq] at hx;refine ⟨x0,a0,o0,fun n hn hn2 => ?_⟩;rw [hx.1] at hn;have b0 := q0 n (qH (i := 0) (y := y0) rfl hn);exact ⟨fun o ho => b0.2 o ho hn2,by omega⟩
theorem Opn.agg {P : Program} {α : Type} {f : α → List D} {Q : α → Nat → Prop} {t : TypeId} {fs : Array Field} {base : Nat} (ho : Opn enc P W t f Q) (ht : P.underlying t = some (.struct fs)) {v : Value} {d : DataW H} {ps : List MemPlace}
  (hv : Value.okWide P W .any base t v) (h : DataW.Trod enc P W 0 (fun _ => true) true t v d ps) :
  ∃ x,(D.agg (f x)).pv.p W (sW W) v ∧ ∀ n,Rows.uptoBulk d ≤ n → Q x n := by
 obtain ⟨cs,rfl,hsz⟩ := okWide_struct ht hv;obtain ⟨l⟩ := cs;obtain ⟨fuel,hf⟩ := h;obtain ⟨x,h1,-,h3⟩ := ho fuel l d ps hsz hf;exact ⟨x,⟨l,rfl,h1⟩,h3⟩
end


open Go.ChangeShapes Go.WideShapes Go.ChangeAt Go.RowKit
theorem mB {H : Type} {enc : TypeId × Value → H} {P : Program} (hl : laidOutB P = true) {W W' : World} (hb : Below W.heap.size W W') :
  ∀ (ts : List TypeId) (vs : List Value) (ds : List (DataW H)) (ps : List MemPlace),(∀ t ∈ ts,P.readableRec t = true ∧ t < P.types.size) →
   DataW.TrodAll enc P W 0 (fun _ => true) true ts vs ds ps → DataW.TrodAll enc P W' 0 (fun b => decide (b < W.heap.size)) true ts vs ds ps
 | [],[],[],ps,_,h => h
 | t :: ts,v :: vs,d :: ds,ps,hr,h => by
  obtain ⟨p,q,hp,hq,e⟩ := h;have lt : ∀ x ∈ p,x.block < W.heap.size := by obtain ⟨m,hm⟩ := hp;exact DataW.trod_lt m _ _ _ hm
  have ht := hr t (by simp);exact ⟨p,q,Below.trod hl ht.1 ht.2 hp hb lt,mB hl hb ts vs ds q (fun x hx => hr x (by simp [hx])) hq,e⟩
 | [],[],_ :: _,_,_,h => by simp [DataW.TrodAll] at h
 | [],_ :: _,_,_,_,h => by simp [DataW.TrodAll] at h
 | _ :: _,[],_,_,_,h => by simp [DataW.TrodAll] at h
 | _ :: _,_ :: _,[],_,_,h => by simp [DataW.TrodAll] at h
open Go.ChangeShapes Go.WideShapes Go.ChangeAt Go.RowKit Go.Shelf
theorem Law_own : ownKnob Tryz.prog.godebug = none := by kernel_rfl
theorem accept_same : (Rows.laid_unicode_utf8_acceptRanges : DataW Unit) = Lib.acceptData := by kernel_rfl
theorem first_same : (Rows.laid_unicode_utf8_first : DataW Unit) = Lib.firstData := by kernel_rfl
theorem space_same : (Rows.laid_strings_asciiSpace : DataW Unit) = Lib.tabData .u8 Lib.asciiSpaceTab := by kernel_rfl
theorem pow_same : (Rows.laid_internal_strconv_uint64pow10 : DataW Unit) = Lib.tabData .u64 Lib.pow10Tab := by kernel_rfl
theorem mE0 {W : World} (hL : laidMetH Tryz.prog Rows.attributeChangeMatchesSpecUptoRow.laid W) : Lib.TabIs Tryz.prog W "internal/strconv.uint64pow10" .u64 Lib.pow10Tab := by
 have h5 : Lib.VarReads Tryz.prog W "internal/strconv.uint64pow10" Rows.laid_internal_strconv_uint64pow10 := Lib.laidMet.reads hL (.tail _ (.tail _ (.head _)));rw [pow_same] at h5;obtain ⟨g,t,cs,fuel,p,hg,hty,hvar,hd⟩ := h5;obtain rfl := Option.some.inj ((show Tryz.prog.globalNamed "internal/strconv.uint64pow10" = some 5 by kernel_rfl).symm.trans hg);obtain rfl := Option.some.inj ((show (Tryz.prog.globals[5]?).map (·.type) = some 227 by kernel_rfl).symm.trans hty);have := Lib.cells_of_tab Tryz.underlying227 Tryz.underlying189 (by kernel_rfl) (by kernel_rfl) hd;unfold Lib.TabIs;rw [hvar,← this]
theorem Law_z {W : World} (hL : laidMetH Tryz.prog Rows.attributeChangeMatchesSpecUptoRow.laid W) (o : Nat) (ho : 20 ≤ o) : W.cell? ⟨5,o,none⟩ = none ∧ sW W 5 o := by
 have h := mE0 hL;have hg : Tryz.prog.globalNamed "internal/strconv.uint64pow10" = some 5 := by kernel_rfl
 refine ⟨?_,?_⟩
 ·rw [World.var?_cell hg h o,List.getElem?_toArray];exact List.getElem?_eq_none (by rw [List.length_map,Lib.pow10Tab_length];exact ho)
 ·exact World.block_lt_of_cell? _ _ (h.cell hg 0 (by rw [Lib.pow10Tab_length];decide))
theorem tab_p16 {W : World} (hL : laidMetH Tryz.prog Rows.attributeChangeMatchesSpecUptoRow.laid W) : Lib.TabSlice 6 .u16 Lib.goPrintTabs.p16 W :=
 Lib.tabSlice_of_reads (name := "strconv.isPrint16") (t := 230) (e := 200) (by kernel_rfl) (by kernel_rfl) Tryz.underlying230 Tryz.underlying200 (by kernel_rfl) (by decide +kernel) (by
  have h : Lib.VarReads Tryz.prog W "strconv.isPrint16" Rows.laid_strconv_isPrint16 := Lib.laidMet.reads hL (.tail _ (.tail _ (.tail _ (.tail _ (.tail _ (.tail _ (.tail _ (.tail _ (.tail _ (.head _))))))))))
  rwa [show (Rows.laid_strconv_isPrint16 : DataW Unit) = Lib.sliceData .u16 Lib.goPrintTabs.p16 from Go.Pinned.isPrint16_eq] at h)
theorem tab_n16 {W : World} (hL : laidMetH Tryz.prog Rows.attributeChangeMatchesSpecUptoRow.laid W) : Lib.TabSlice 7 .u16 Lib.goPrintTabs.n16 W :=
 Lib.tabSlice_of_reads (name := "strconv.isNotPrint16") (t := 230) (e := 200) (by kernel_rfl) (by kernel_rfl) Tryz.underlying230 Tryz.underlying200 (by kernel_rfl) (by decide +kernel) (by
  have h : Lib.VarReads Tryz.prog W "strconv.isNotPrint16" Rows.laid_strconv_isNotPrint16 := Lib.laidMet.reads hL (.tail _ (.tail _ (.tail _ (.tail _ (.tail _ (.tail _ (.tail _ (.head _))))))))
  rwa [show (Rows.laid_strconv_isNotPrint16 : DataW Unit) = Lib.sliceData .u16 Lib.goPrintTabs.n16 from Go.Pinned.isNotPrint16_eq] at h)
theorem tab_p32 {W : World} (hL : laidMetH Tryz.prog Rows.attributeChangeMatchesSpecUptoRow.laid W) : Lib.TabSlice 8 .u32 Lib.goPrintTabs.p32 W :=
 Lib.tabSlice_of_reads (name := "strconv.isPrint32") (t := 25) (e := 102) (by kernel_rfl) (by kernel_rfl) Tryz.underlying25 Tryz.underlying102 (by kernel_rfl) (by decide +kernel) (by
  have h : Lib.VarReads Tryz.prog W "strconv.isPrint32" Rows.laid_strconv_isPrint32 := Lib.laidMet.reads hL (.tail _ (.tail _ (.tail _ (.tail _ (.tail _ (.tail _ (.tail _ (.tail _ (.tail _ (.tail _ (.head _)))))))))))
  rwa [show (Rows.laid_strconv_isPrint32 : DataW Unit) = Lib.sliceData .u32 Lib.goPrintTabs.p32 from Go.Pinned.isPrint32_eq] at h)
theorem tab_n32 {W : World} (hL : laidMetH Tryz.prog Rows.attributeChangeMatchesSpecUptoRow.laid W) : Lib.TabSlice 9 .u16 Lib.goPrintTabs.n32 W :=
 Lib.tabSlice_of_reads (name := "strconv.isNotPrint32") (t := 230) (e := 200) (by kernel_rfl) (by kernel_rfl) Tryz.underlying230 Tryz.underlying200 (by kernel_rfl) (by decide +kernel) (by
  have h : Lib.VarReads Tryz.prog W "strconv.isNotPrint32" Rows.laid_strconv_isNotPrint32 := Lib.laidMet.reads hL (.tail _ (.tail _ (.tail _ (.tail _ (.tail _ (.tail _ (.tail _ (.tail _ (.head _)))))))))
  rwa [show (Rows.laid_strconv_isNotPrint32 : DataW Unit) = Lib.sliceData .u16 Lib.goPrintTabs.n32 from Go.Pinned.isNotPrint32_eq] at h)
def wU0 : List (DataW Unit) → List Value
 | [] => []
 | .lit (.int k n) :: l => .int k n :: wU0 l
 | _ :: l => undef :: wU0 l
def dT0 : DataW Unit → Array Value
 | .agg l => (wU0 l).toArray
 | .slice l _ => (wU0 l).toArray
 | _ => #[]
theorem Law_glob {W : World} (hL : laidMetH Tryz.prog Rows.attributeChangeMatchesSpecUptoRow.laid W) (hs : W.ShapedOpen Tryz.prog) : Glb W (sW W) := by
 have h3 : Lib.VarReads Tryz.prog W "unicode/utf8.first" Rows.laid_unicode_utf8_first := Lib.laidMet.reads hL (.tail _ (.tail _ (.tail _ (.tail _ (.tail _ (.tail _ (.tail _ (.tail _ (.tail _ (.tail _ (.tail _ (.head _))))))))))));have h4 : Lib.VarReads Tryz.prog W "unicode/utf8.acceptRanges" Rows.laid_unicode_utf8_acceptRanges := Lib.laidMet.reads hL (.tail _ (.tail _ (.tail _ (.head _))));have h5 : Lib.VarReads Tryz.prog W "strings.asciiSpace" Rows.laid_strings_asciiSpace := Lib.laidMet.reads hL (.tail _ (.tail _ (.tail _ (.tail _ (.tail _ (.head _))))));rw [first_same] at h3;rw [accept_same] at h4;rw [space_same] at h5;have hT : Lib.Utf8Tabs 1 2 W := utf8Tabs_of_readsT (U8Types.of196 Tryz.laysValid) ⟨by kernel_rfl,by kernel_rfl,by kernel_rfl,by kernel_rfl,by kernel_rfl,by kernel_rfl,by kernel_rfl⟩ h3 h4;have hS : Lib.TabIs Tryz.prog W "strings.asciiSpace" .u8 Lib.asciiSpaceTab := by
  obtain ⟨g,t,cs,fuel,p,hg,hty,hvar,hd⟩ := h5;obtain rfl := Option.some.inj ((show Tryz.prog.globalNamed "strings.asciiSpace" = some 0 by kernel_rfl).symm.trans hg);obtain rfl := Option.some.inj ((show (Tryz.prog.globals[0]?).map (·.type) = some 149 by kernel_rfl).symm.trans hty);have := Lib.cells_of_tab Tryz.underlying149 Tryz.underlying5 (by kernel_rfl) (by kernel_rfl) hd;unfold Lib.TabIs;rw [hvar,← this]
 have hM := Go.Proofs.cell_of_shapedOpen_int (g := 4) (t := 3) (zero := #[.int .i64 0]) hs (of_decide_eq_true (by kernel_rfl)) (by kernel_rfl) rfl (by kernel_rfl) (by kernel_rfl) Tryz.underlying3;refine ⟨fun b o => W.cell? ⟨b,o,none⟩,⟨hM,fun c hc => hT.1 c hc,fun i hi => hT.2 i hi,fun c hc => ?_,fun i hi => (mE0 hL).cell (by kernel_rfl) i (by rw [Lib.pow10Tab_length];exact hi),tab_p16 hL,tab_n16 hL,tab_p32 hL,tab_n32 hL⟩,fun b o v hv => ⟨hv,World.block_lt_of_cell? _ _ hv⟩,fun b o h => by cases h with | pow10 o ho => exact Law_z hL _ ho⟩;show W.cell? ⟨0,c,none⟩ = _;rw [hS.cell (by kernel_rfl) c (by rw [Lib.asciiSpaceTab_length];exact hc),Lib.asciiSpaceTab_at c hc]
noncomputable def Law_world (os : Os) : World :=
 let N := (World.settled Tryz.prog os).heap.size
 let w0 := World.holding Tryz.prog os ⟨#[.cells (Lib.whiteT.map fun (z : Nat) => Value.int .u16 (z : Int)).toArray 202,.cells #[.slice (some ⟨N,0,none⟩) 7 7,.slice none 0 0,.int .i64 2] 199,.cells (dT0 Rows.laid_strconv_isGraphic) 200,.cells (Lib.intCellsOf .u16 Lib.goPrintTabs.n16) 200,.cells (Lib.intCellsOf .u16 Lib.goPrintTabs.n32) 200,.cells (Lib.intCellsOf .u16 Lib.goPrintTabs.p16) 200,.cells (Lib.intCellsOf .u32 Lib.goPrintTabs.p32) 102],#[],[]⟩
 let put (h : Array Obj) (g : Nat) (cs : Array Value) : Array Obj := h.modify g fun
  | .cells _ t frozen => .cells cs t frozen
  | o => o
 let h1 := put w0.heap 0 (Lib.asciiSpaceTab.map fun z => Value.int .u8 z).toArray
 let h2 := put h1 1 (Lib.firstTab.map fun z => Value.int .u8 z).toArray
 let h3 := put h2 2 ((List.range 16).flatMap fun i => [Value.int .u8 (Lib.accLo i),Value.int .u8 (Lib.accHi i)]).toArray
 let h4 := put h3 3 #[.pointer (some ⟨N + 1,0,none⟩)]
 let h5 := put h4 11 (dT0 Rows.laid_math_bits_deBruijn32tab)
 let h6 := put h5 12 (dT0 Rows.laid_math_bits_deBruijn64tab)
 let h7 := put h6 5 (dT0 Rows.laid_internal_strconv_uint64pow10)
 let h8 := put h7 10 #[.slice (some ⟨N + 2,0,none⟩) 16 16]
 let h9 := put h8 7 #[.slice (some ⟨N + 3,0,none⟩) Lib.goPrintTabs.n16.length Lib.goPrintTabs.n16.length]
 let h10 := put h9 9 #[.slice (some ⟨N + 4,0,none⟩) Lib.goPrintTabs.n32.length Lib.goPrintTabs.n32.length]
 let h11 := put h10 6 #[.slice (some ⟨N + 5,0,none⟩) Lib.goPrintTabs.p16.length Lib.goPrintTabs.p16.length]
 let h12 := put h11 8 #[.slice (some ⟨N + 6,0,none⟩) Lib.goPrintTabs.p32.length Lib.goPrintTabs.p32.length]
 { w0 with heap := h12 }
def Law_arg : Array Value := #[.agg #[.slice none 0 0],.agg #[.int .i64 0,.bool false,.slice none 0 0,.bool false,.slice none 0 0,.string ⟨#[]⟩,.int .i64 0],.string ⟨#[]⟩,.agg #[.int .i64 0,.bool false,.slice none 0 0,.bool false,.slice none 0 0,.string ⟨#[]⟩,.int .i64 0]]
noncomputable abbrev N0 : Nat := (World.settled Tryz.prog default).heap.size
theorem Law_pc0 (os : Os) : LaidIn Tryz.prog ((Law_world os).forCall (fun _ _ => 0) ⟨#[],Law_arg,[]⟩).memory ((Rows.attributeChangeMatchesSpecUptoRow.laid.drop 0).take 7) [11,12,5,2,3,N0,N0 + 1,0,10,N0 + 2] :=
 LaidIn.of_run [11,12,5,2,3,N0,N0 + 1,0,10,N0 + 2] 10 (by kernel_rfl) (by kernel_rfl) (by kernel_rfl) (by kernel_rfl)
set_option maxRecDepth 1000000 in
theorem Law_pc1 (os : Os) : LaidIn Tryz.prog ((Law_world os).forCall (fun _ _ => 0) ⟨#[],Law_arg,[]⟩).memory [("strconv.isNotPrint16",Rows.laid_strconv_isNotPrint16)] [7,N0 + 3] := by
 rw [show (Rows.laid_strconv_isNotPrint16 : DataW Unit) = Lib.sliceData .u16 Lib.goPrintTabs.n16 from Go.Pinned.isNotPrint16_eq];exact Lib.laidIn_slice (t := 230) (e := 200) (te := 200) Lib.goPrintTabs.n16 (N0 + 3) (by kernel_rfl) (by kernel_rfl) (by kernel_rfl) (by kernel_rfl) (by kernel_rfl) (by kernel_rfl) (by kernel_rfl) (by kernel_rfl) (of_decide_eq_true (by kernel_rfl)) (of_decide_eq_true (by kernel_rfl))
set_option maxRecDepth 1000000 in
theorem Law_pc2 (os : Os) : LaidIn Tryz.prog ((Law_world os).forCall (fun _ _ => 0) ⟨#[],Law_arg,[]⟩).memory [("strconv.isNotPrint32",Rows.laid_strconv_isNotPrint32)] [9,N0 + 4] := by
 rw [show (Rows.laid_strconv_isNotPrint32 : DataW Unit) = Lib.sliceData .u16 Lib.goPrintTabs.n32 from Go.Pinned.isNotPrint32_eq];exact Lib.laidIn_slice (t := 230) (e := 200) (te := 200) Lib.goPrintTabs.n32 (N0 + 4) (by kernel_rfl) (by kernel_rfl) (by kernel_rfl) (by kernel_rfl) (by kernel_rfl) (by kernel_rfl) (by kernel_rfl) (by kernel_rfl) (of_decide_eq_true (by kernel_rfl)) (of_decide_eq_true (by kernel_rfl))
set_option maxRecDepth 1000000 in
theorem Law_pc3 (os : Os) : LaidIn Tryz.prog ((Law_world os).forCall (fun _ _ => 0) ⟨#[],Law_arg,[]⟩).memory [("strconv.isPrint16",Rows.laid_strconv_isPrint16)] [6,N0 + 5] := by
 rw [show (Rows.laid_strconv_isPrint16 : DataW Unit) = Lib.sliceData .u16 Lib.goPrintTabs.p16 from Go.Pinned.isPrint16_eq];exact Lib.laidIn_slice (t := 230) (e := 200) (te := 200) Lib.goPrintTabs.p16 (N0 + 5) (by kernel_rfl) (by kernel_rfl) (by kernel_rfl) (by kernel_rfl) (by kernel_rfl) (by kernel_rfl) (by kernel_rfl) (by kernel_rfl) (of_decide_eq_true (by kernel_rfl)) (of_decide_eq_true (by kernel_rfl))
set_option maxRecDepth 1000000 in
theorem Law_pc4 (os : Os) : LaidIn Tryz.prog ((Law_world os).forCall (fun _ _ => 0) ⟨#[],Law_arg,[]⟩).memory [("strconv.isPrint32",Rows.laid_strconv_isPrint32)] [8,N0 + 6] := by
 rw [show (Rows.laid_strconv_isPrint32 : DataW Unit) = Lib.sliceData .u32 Lib.goPrintTabs.p32 from Go.Pinned.isPrint32_eq];exact Lib.laidIn_slice (t := 25) (e := 102) (te := 102) Lib.goPrintTabs.p32 (N0 + 6) (by kernel_rfl) (by kernel_rfl) (by kernel_rfl) (by kernel_rfl) (by kernel_rfl) (by kernel_rfl) (by kernel_rfl) (by kernel_rfl) (of_decide_eq_true (by kernel_rfl)) (of_decide_eq_true (by kernel_rfl))
theorem Law_pc5 (os : Os) : LaidIn Tryz.prog ((Law_world os).forCall (fun _ _ => 0) ⟨#[],Law_arg,[]⟩).memory ((Rows.attributeChangeMatchesSpecUptoRow.laid.drop 11).take 1) [1] :=
 LaidIn.of_run [1] 10 (by kernel_rfl) (by kernel_rfl) (by kernel_rfl) (by kernel_rfl)
theorem Law_met (os : Os) : laidMet Tryz.prog Rows.attributeChangeMatchesSpecUptoRow.laid ((Law_world os).forCall (fun _ _ => 0) ⟨#[],Law_arg,[]⟩).memory :=
 ((((((Law_pc0 os).append (Law_pc1 os) (by kernel_rfl)).append (Law_pc2 os) (by kernel_rfl)).append (Law_pc3 os) (by kernel_rfl)).append (Law_pc4 os) (by kernel_rfl)).append (Law_pc5 os) (by kernel_rfl)).met
theorem Law_row (os : Os) {H : Type} (enc : TypeId × Value → H) :
  (Rows.OpenSpec.upto Rows.attributeChangeMatchesSpecSpec).preRow enc Tryz.prog Tryz.f4 Rows.attributeChangeMatchesSpecUptoRow.domain false Rows.attributeChangeMatchesSpecUptoRow.laid ((Law_world os).forCall (fun _ _ => 0) ⟨#[],Law_arg,[]⟩).memory Law_arg := by
 have hw : (DataW.whole enc Tryz.prog ((Law_world os).forCall (fun _ _ => 0) ⟨#[],Law_arg,[]⟩).memory Tryz.f4.params.toList Rows.attributeChangeMatchesSpecSpec.vars false Law_arg.toList 8).map (fun x => (x.1,x.2.1)) =
   some ([.agg [.nil],.agg [.lit (.int .i64 0),.agg [.lit (.bool false),.nil],.agg [.lit (.bool false),.nil],.lit (.string []),.lit (.int .i64 0)],.lit (.string []),.agg [.lit (.int .i64 0),.agg [.lit (.bool false),.nil],.agg [.lit (.bool false),.nil],.lit (.string []),.lit (.int .i64 0)]],[]) := by kernel_rfl
 obtain ⟨⟨x1,x2,x3⟩,hx,hx1⟩ := Option.map_eq_some_iff.1 hw;simp only [Prod.mk.injEq] at hx1;obtain ⟨rfl,rfl⟩ := hx1;exact OpenSpec.preRow_of_cond 8 hx (by kernel_rfl) (fun k hk => by cases hk;kernel_rfl) (by kernel_rfl) (Law_met os)
theorem Str_open {H : Type} {enc : TypeId × Value → H} {P : Program} {W : World} {base : Nat} {t : TypeId} {v : Value} {d : DataW H} {ps : List MemPlace}
  (ht : P.underlying t = some .string) (hv : Value.okWide P W .any base t v) (h : DataW.Trod enc P W 0 (fun _ => true) true t v d ps) :
  ∃ s : ByteArray,v = .string s ∧ s.size ≤ Rows.uptoBulk d := by
 obtain ⟨s,rfl⟩ := okWide_string ht hv;obtain ⟨fuel,hf⟩ := h;obtain ⟨k,hk,hx,_⟩ := DataW.trod_string ht hf;simp only [Prod.mk.injEq] at hx;simp only [Value.cells,List.cons.injEq,and_true] at hk;refine ⟨s,rfl,?_⟩;rw [hx.1];simp only [Value.string.injEq] at hk;rw [hk];simp only [Rows.uptoBulk];have e : k.data.toList.length = k.size := by rw [Array.length_toList];rfl
 omega
set_option maxRecDepth 100000 in
set_option maxHeartbeats 2000000 in
theorem Law_lifted (os : Os) (started : os.Started) (H : Type) (enc : TypeId × Value → H) (F : Stop.Interp) :
  ReturnsInHanded {} Tryz.checked os 4 .any ((Rows.OpenSpec.upto Rows.attributeChangeMatchesSpecSpec).preRow enc Tryz.prog Tryz.f4 Rows.attributeChangeMatchesSpecUptoRow.domain false Rows.attributeChangeMatchesSpecUptoRow.laid) (((Rows.OpenSpec.upto Rows.attributeChangeMatchesSpecSpec).at F).post enc Tryz.prog Tryz.f4 false true false false) := by
 refine returnsInHanded_of_row (C := Tryz.checked) (s := Rows.OpenSpec.upto Rows.attributeChangeMatchesSpecSpec) Law_own started (by kernel_rfl) Tryz.func4
  (witness_row_atRef (enc := enc) (C := Tryz.checked) false (Law_world os) Law_arg rfl (by kernel_rfl) (by kernel_rfl) (by kernel_rfl) (Law_row os enc)) ?_
 intro W base args ds gs before hval0 hW _ hk _ hL hS _;have hval : ∀ (j : Nat) t v,Tryz.f4.params[j]? = some t → args[j]? = some v → Value.okWide Tryz.prog W .any base t v := hval0;have hW' := hW;obtain ⟨p,q,hA0,hV,rfl,hfz,hnd⟩ := hW;have hA : DataW.TrodAll enc Tryz.prog W 0 (fun _ => true) true Tryz.f4.params.toList args.toList ds p := hA0;obtain ⟨rfl,rfl⟩ := trodVars_none hV;have hA1 := hA;rw [Tryz.params4] at hA hval;obtain ⟨v0,vs0,d0,ds0,p0,q0,hargs,rfl,rfl,h0,r0⟩ := trodAll_cons hA;obtain ⟨v1,vs1,d1,ds1,p1,q1,rfl,rfl,rfl,h1,r1⟩ := trodAll_cons r0;obtain ⟨v2,vs2,d2,ds2,p2,q2,rfl,rfl,rfl,h2,r2⟩ := trodAll_cons r1;obtain ⟨v3,vs3,d3,ds3,p3,q3,rfl,rfl,rfl,h3,r3⟩ := trodAll_cons r2;obtain ⟨rfl,rfl,rfl⟩ := trodAll_nil r3;obtain rfl : args = #[v0,v1,v2,v3] := by cases args;simp_all
 have hb : Rows.uptoBulkAll [d0,d1,d2,d3] ≤ 1048576 := by
  have := hk _ rfl;simpa [Rows.uptoSmall] using this
 simp only [Rows.uptoBulkAll] at hb;obtain ⟨x0,a0,i0⟩ := Opn.agg Opn.heap Tryz.underlying24 (hval 0 24 v0 rfl rfl) h0;obtain ⟨x1,a1,i1⟩ := Opn.agg Opn.val Tryz.underlying29 (hval 1 29 v1 rfl rfl) h1;obtain ⟨z2,rfl,b2⟩ := Str_open Tryz.underlying9 (hval 2 9 v2 rfl rfl) h2;obtain ⟨x3,a3,i3⟩ := Opn.agg Opn.val Tryz.underlying29 (hval 3 29 v3 rfl rfl) h3;have hG := Law_glob hL hS;refine ((Law30_ok x0 x1 z2 x3 (i0 1048576 (by omega) (Nat.le_refl _)) (i1 1048576 (by omega) (Nat.le_refl _)) (i3 1048576 (by omega) (Nat.le_refl _))).2 W (sW W) [v0,v1,.string z2,v3] (fun _ _ h => h) hG ⟨a0,a1,rfl,a3,trivial⟩).mono fun e W' hQ => ?_;obtain ⟨s',x,he,hp,hst⟩ := hQ;have hp : x = .bool true := hp;subst hp;subst he;have bel := hst.below;have hl : laidOutB Tryz.prog = true := by kernel_rfl
 have hread : Tryz.f4.params.toList.all (fun t => Tryz.prog.readableRec t && decide (t < Tryz.prog.types.size)) = true := by kernel_rfl
 refine ⟨_,rfl,[d0,d1,d2,d3],[],_,[],(p0 ++ (p1 ++ (p2 ++ (p3 ++ ([]))))),[],hW',?_,?_,?_,bel.frame _,fun h => by cases h⟩
 ·exact trodAll_mk1 (shut_bool Tryz.underlying4 _)
 ·exact mB hl bel _ _ _ _ (fun t ht => by have := List.all_eq_true.1 hread t ht;simpa using this) hA1
 ·rfl
theorem Law_fi : (Rows.attributeChangeMatchesSpecUptoRow.inPlace == Tryz.pinned.checked.prog.inPlace 4) = true := by kernel_rfl
theorem Law_fu : (Rows.attributeChangeMatchesSpecUptoRow.unfollowed == Tryz.pinned.checked.prog.unfollowed 4) = true := by kernel_rfl
theorem Law_fr : (Rows.attributeChangeMatchesSpecUptoRow.recurses == Tryz.pinned.checked.prog.recurses 4) = true := by kernel_rfl
theorem Law_fn : (Rows.attributeChangeMatchesSpecUptoRow.named == Tryz.pinned.checked.prog.varsNamed 4) = true := by kernel_rfl
theorem Law_facts : joinedFacts Tryz.pinned.checked.prog 4 Tryz.f4 (Rows.OpenSpec.upto Rows.attributeChangeMatchesSpecSpec).bare Rows.attributeChangeMatchesSpecUptoRow = true := by
 unfold joinedFacts;rw [Law_fi,Law_fu,Law_fr,Law_fn];kernel_rfl
theorem Law_inst : Tryz.f4.isInstance Tryz.pinned.checked.prog Rows.attributeChangeMatchesSpecUptoRow.origin Rows.attributeChangeMatchesSpecUptoRow.targs := of_decide_eq_true (by kernel_rfl)
theorem Law_wrap : Tryz.f4.isWrapper Tryz.pinned.checked.prog Rows.attributeChangeMatchesSpecUptoRow.wrapper Rows.attributeChangeMatchesSpecUptoRow.mainSum := by unfold Func.isWrapper;first | (rw [if_pos (by decide +kernel)];kernel_rfl) | (rw [if_neg (by decide +kernel)];exact ⟨rfl,rfl⟩)
theorem Law_named : Tryz.pinned.checked.prog.funcNamed Rows.attributeChangeMatchesSpecUptoRow.func = some 4 := by kernel_rfl
theorem Law_looks : false = Tryz.pinned.checked.prog.looks [] := by kernel_rfl
theorem Law_goes : false = Rows.attributeChangeMatchesSpecUptoRow.goesBy Tryz.pinned.checked.prog := by kernel_rfl
theorem Law_wf : Rows.attributeChangeMatchesSpecUptoRow.wfByText (Rows.OpenSpec.upto Rows.attributeChangeMatchesSpecSpec) = true := by kernel_rfl
theorem Law_main : Tryz.pinned.checked.prog.mainIs = some (Rows.attributeChangeMatchesSpecUptoCard.stood.harness.1,Rows.attributeChangeMatchesSpecUptoCard.stood.harness.2.toList) := by kernel_rfl
theorem Law_said : Rows.AttributeChangeMatchesSpecUptoSaid :=
 OpenClaim.holds_of_cond 4 Tryz.f4 rfl rfl rfl rfl rfl rfl rfl ⟨rfl,rfl,rfl,rfl,rfl⟩ rfl rfl rfl rfl rfl Law_named Tryz.func4 Law_facts Law_inst Law_wrap
  (fun os started H enc _ F => by rw [OpenClaim.pre_eq_preRow];exact Law_lifted os started H enc F)
theorem Law_plain (f : FuncId) (fn : Func) (hf : Tryz.pinned.checked.prog.funcNamed "brindlewood/brindlewoodlaw7.AttributeChangeMatchesSpec" = some f) (hfn : Tryz.pinned.checked.prog.funcs[f]? = some fn) :
  false = Tryz.pinned.checked.prog.looks [] ∧ ∀ (j : Nat) t,fn.params[j]? = some t → Tryz.pinned.checked.prog.wantsStandIn t = false := by
 obtain rfl : f = 4 := Option.some.inj (Law_named.symm.trans hf) |>.symm;obtain rfl : fn = Tryz.f4 := (Option.some.inj (Tryz.func4.symm.trans hfn)).symm;refine ⟨Law_looks,fun j t ht => ?_⟩;rw [Tryz.params4] at ht;have hm := Array.mem_of_getElem? ht;simp only [List.mem_toArray,List.mem_cons,List.not_mem_nil,or_false] at hm;have wS : Tryz.prog.wantsStandIn 9 = false := by kernel_rfl
 have wh : Tryz.prog.wantsStandIn 24 = false := by kernel_rfl
 have wv : Tryz.prog.wantsStandIn 29 = false := by kernel_rfl
 rcases hm with rfl | rfl | rfl | rfl
 ·exact wh
 ·exact wv
 ·exact wS
 ·exact wv
theorem Law_holds : Rows.AttributeChangeMatchesSpecUptoCardSaid :=
 Claim7.holds_tied_plain_at .later [] _ _ _ _ Law_said (fun _ h => by cases h) Law_wf (fun _ h => by cases h) attributeChangeMatchesSpecUpto_row_tie rfl ⟨rfl,rfl⟩ Law_main rfl Law_plain Law_goes
end Go.Proofs.YtbhndnphimmjjaaGreatDoor
