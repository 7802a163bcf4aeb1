/- InlineAttrMatchesSpec: the given statement. Condition: what the law reads is of bulk at most 1048576 (the second form); the listed variables start as the program's text lays them. -/
import Derived.Test.YtifgelimmddkpaaGreatDoorM24
import Derived.Test.YtifgelimmddkpaaGreatDoorM26
import Derived.ProofKit
import Derived.OpenShut
import Derived.ShutString
import Derived.Deep.Matrix
import Derived.Test.YtifgelimmddkpaaGreatDoorCards
import Derived.Test.YtifgelimmddkpaaGreatDoorTie
import Derived.Lib.LaidU8T
import Derived.Deep.DeepWitnessRowRef
import Derived.PinnedBridge
import Derived.Lib.LaidSlice
namespace Go.Proofs.YtifgelimmddkpaaGreatDoor
open Go.RowKit
variable {md me : Bool}
theorem zX1 {P : Program} {K : DS → Prop} {p : Prop} {r : Out} (hr : r.sat P K) (hp : p := by first | exact ⟨hc.1,hc.2⟩ | exact hc | exact Dz) : (Out.need p r).sat P K := ⟨hp,hr⟩
theorem zW1 {P : Program} {K : DS → Prop} {p : Prop} {r : Out} (hr : r.sat P K) (hp : p := by first | exact hin | exact ⟨hin.1,hin.2⟩ | exact Dz) : (Out.need p r).sat P K := ⟨hp,hr⟩
theorem dV (h : List Ob) (c : Int) (hh : HpIn h) (hc : inH h c) (hL : ∀ r ∈ (zX h c).order,inH h r) : Fn Tryz.prog 59 [hpD md h,.v (.int .i64 c)] (isD (Il.verS h c)) := by
 have hol := (hh.at c).ol;refine yL zJ Tryz.func59 rfl rfl rfl rfl rfl rfl ?_;intro w0 s0 mx;refine zL 100 ?_;refine zL 200 ?_;refine yW 5 3 1 rfl ?_;refine zB ?_;refine zB (zE zJ [] 300 rfl ?_);repeat (first | refine zG ?_ | refine zH ?_ | refine zX1 ?_)
 refine zC (zA (zR ?_));refine yC (ι := {k : Nat // k ≤ (zX h c).order.length}) [2,13,14] [0] 350 (fun x => [(15,.v (.int .i64 x.1)),(5,.own 200 1 (((zX h c).order.take x.1).map fun r => iD (zX h r).state))]) (fun x => [(200,.row 3 1 (((zX h c).order.take x.1).map fun r => iD (zX h r).state).length)]) (fun x => (zX h c).order.length - x.1) ⟨0,Ap _⟩ ?_;refine ⟨⟨⟨Sub.int rfl,Sub.own rfl,yG⟩,⟨⟨rfl,rfl,rfl⟩,yD⟩,rfl,rfl⟩,fun x => ?_⟩;have hk1 : x.1 ≤ (zX h c).order.length := x.2;refine zL 400 ?_;refine zB (zS rfl (fun c3 => ?_) (fun c3 => ?_))
 ·have hlt : x.1 < (zX h c).order.length := by simpa using c3
  have hin := hL ((zX h c).order.getD x.1 0) (by rw [Ai,Ac hlt];exact Ca _);refine zN (zA (zB (zR (zL 500 ?_))));refine zE zJ [] 600 rfl ?_;repeat (first | refine zG ?_ | refine zH ?_ | refine zW1 ?_)
  refine zC (zP (zA (yT zJ [] 700 ?_)));exact zV ⟨x.1 + 1,by omega⟩ ⟨⟨Sub.int (by push_cast;rfl),Sub.own (by rw [yZ hlt 0,Ad];rfl),yG⟩,⟨⟨rfl,rfl,by rw [yZ hlt 0];simp⟩,yD⟩,rfl,rfl⟩ (by show (zX h c).order.length - (x.1 + 1) < (zX h c).order.length - x.1;omega)
 ·have hke : x.1 = (zX h c).order.length := by
   have h9 : ¬ x.1 < (zX h c).order.length := by simpa using c3
   omega
  refine yF (yA (yB (zY (zA ?_))));refine yH [] [] 410 [(5,isD (Il.verS h c))] [] ?_;refine ⟨⟨⟨Sub.ownSl (by rw [hke,List.take_length];unfold Il.verS;rw [Cb];rfl),trivial⟩,yD,rfl,rfl⟩,?_⟩;refine zL 800 ?_;refine zK ?_;exact FinV.ret rfl (SubP.refl _)
theorem mP (h : List Ob) (c : Int) (hh : HpIn h) (hc : inH h c) (hL : ∀ r ∈ (zX h c).order,inH h r) : Fn Tryz.prog 18 [hpD md h,.v (.int .i64 c)] (isD (Il.verS h c)) := by
 have hol := (hh.at c).ol;refine yL zJ Tryz.func18 rfl rfl rfl rfl rfl rfl ?_;intro w0 s0 mx;refine zL 100 ?_;refine zL 200 ?_;refine yW 5 3 1 rfl ?_;refine zB ?_;refine zB (zE zJ [] 300 rfl ?_);repeat (first | refine zG ?_ | refine zH ?_ | refine zX1 ?_)
 refine zC (zA (zR ?_));refine yC (ι := {k : Nat // k ≤ (zX h c).order.length}) [2,13,14] [0] 350 (fun x => [(15,.v (.int .i64 x.1)),(5,.own 200 1 (((zX h c).order.take x.1).map fun r => iD (zX h r).state))]) (fun x => [(200,.row 3 1 (((zX h c).order.take x.1).map fun r => iD (zX h r).state).length)]) (fun x => (zX h c).order.length - x.1) ⟨0,Ap _⟩ ?_;refine ⟨⟨⟨Sub.int rfl,Sub.own rfl,yG⟩,⟨⟨rfl,rfl,rfl⟩,yD⟩,rfl,rfl⟩,fun x => ?_⟩;have hk1 : x.1 ≤ (zX h c).order.length := x.2;refine zL 400 ?_;refine zB (zS rfl (fun c3 => ?_) (fun c3 => ?_))
 ·have hlt : x.1 < (zX h c).order.length := by simpa using c3
  have hin := hL ((zX h c).order.getD x.1 0) (by rw [Ai,Ac hlt];exact Ca _);refine zN (zA (zB (zR (zL 500 ?_))));refine zE zJ [] 600 rfl ?_;repeat (first | refine zG ?_ | refine zH ?_ | refine zW1 ?_)
  refine zC (zP (zA (yT zJ [] 700 ?_)));exact zV ⟨x.1 + 1,by omega⟩ ⟨⟨Sub.int (by push_cast;rfl),Sub.own (by rw [yZ hlt 0,Ad];rfl),yG⟩,⟨⟨rfl,rfl,by rw [yZ hlt 0];simp⟩,yD⟩,rfl,rfl⟩ (by show (zX h c).order.length - (x.1 + 1) < (zX h c).order.length - x.1;omega)
 ·have hke : x.1 = (zX h c).order.length := by
   have h9 : ¬ x.1 < (zX h c).order.length := by simpa using c3
   omega
  refine yF (yA (yB (zY (zA ?_))));refine yH [] [] 410 [(5,isD (Il.verS h c))] [] ?_;refine ⟨⟨⟨Sub.ownSl (by rw [hke,List.take_length];unfold Il.verS;rw [Cb];rfl),trivial⟩,yD,rfl,rfl⟩,?_⟩;refine zL 800 ?_;refine zK ?_;exact FinV.ret rfl (SubP.refl _)
theorem dS0 (h : List Ob) (x : Il.Sx) (v : Vl) (hh : HpIn h) (hv : v.k = 6 → yO h v.r = true) (hc : (zO h v).kind = 10 → inH h (zO h v).cls ∧ ∀ r ∈ (zX h (zO h v).cls).order,inH h r) (hl : x.ver.length ≤ 1000) : Fn Tryz.prog 17 [hpD md h,.agg (Il.siD x),.agg (vlD v)] (.v (.bool (Il.fitS h x v))) := by
 refine yL zJ Tryz.func17 rfl rfl rfl rfl rfl rfl ?_;intro w0 s0 mx;refine zL 100 ?_;refine zB ?_;refine zB (zE zJ [] 200 rfl ?_);repeat (first | refine zG ?_ | refine zH ?_ | refine zW (by first | (intro hh9;exact yJ (hv (by simpa using hh9))) | exact Dz) ?_)
 refine zC (zA (zS rfl (fun c1 => ?_) (fun c1 => ?_)))
 ·
  refine zL 300 ?_;refine zK (zM ?_)
  exact FinV.ret rfl (SubP.bool (by
   rw [eq_comm,Il.fitS];by_cases h6 : v.k = 6
   ·rw [show zO h v = zX h v.r from Ab ⟨h6,hv h6⟩];have h9 := c1;simp [-List.getD_eq_getElem?_getD,h6] at h9;by_cases hk : (zX h v.r).kind = 10
    ·simp [-List.getD_eq_getElem?_getD,hk] at h9;simp [-List.getD_eq_getElem?_getD,h9]
    ·simp [-List.getD_eq_getElem?_getD,hk]
   ·rw [bJ h6];simp [ob0]))
 ·have hq : v.k = 6 ∧ (zX h v.r).kind = 10 ∧ 0 < x.ver.length := by
   have h9 := c1;simp [-List.getD_eq_getElem?_getD] at h9;exact ⟨h9.1.1,h9.1.2,List.length_pos_iff.2 h9.2⟩
  have hob := hv hq.1;have e9 : zO h v = zX h v.r := Ab ⟨hq.1,hob⟩;have hin := yJ hob;have hci := hc (by rw [e9];exact hq.2.1);rw [e9] at hci;refine zN (zA ?_);refine zB (zE zJ [] 400 rfl ?_);repeat (first | refine zG ?_ | refine zH ?_ | refine zW (by first | exact ⟨hin.1,hin.2⟩ | exact hin | exact Dz) ?_)
  refine zC (zA ?_);refine zB (zU zJ [] [[],[],[1],[0,1,2],[0,1,2,3],(rgN 5),(rgN 5),(rgN 7),(rgN 5),[0,1,2,3,4,8],(rgN 10),(rgN 11),(rgN 12)] 500 yP (by kernel_rfl) rfl ?_);refine zF ?_;refine yS _ (fun hg7 => dV h (zX h v.r).cls hh hci.1 hci.2) rfl ?_;refine zF ?_;refine yS _ (fun hg10 => uD0 (Il.verS h (zX h v.r).cls) x.ver) rfl ?_;refine zF ?_;refine zC (zA (zK ?_));exact FinV.ret rfl (SubP.bool (by rw [Il.fitS,e9];simp [-List.getD_eq_getElem?_getD,hq,eq_comm]))
theorem SiteFits_ok (h : List Ob) (x : Il.Sx) (v : Vl) (hh : HpIn h) (hv : v.k = 6 → yO h v.r = true) (hc : (zO h v).kind = 10 → inH h (zO h v).cls ∧ ∀ r ∈ (zX h (zO h v).cls).order,inH h r) (hl : x.ver.length ≤ 1000) : Fn Tryz.prog 16 [hpD md h,.agg (Il.siD x),.agg (vlD v)] (.v (.bool (Il.fitS h x v))) := by
 refine yL zJ Tryz.func16 rfl rfl rfl rfl rfl rfl ?_;intro w0 s0 mx;refine zL 100 ?_;refine zB (zE zJ [] 200 rfl ?_);refine zF ?_;refine zT _ (qJ h v) rfl ?_;refine zF ?_;refine zC (zA ?_);refine yH [3,4,7] [0,1,103] 210 [] [(103,.box 36 (obD (zO h v)))] ?_;refine ⟨⟨yG,⟨⟨rfl,SubL.same rfl⟩,yD⟩,rfl,rfl⟩,?_⟩;refine zB (zU zJ [] [[],[0],[0,1],[0,1,2],[0,1,2,3],(rgN 5),[0,1,2,3],[0,1,2,3,6],(rgN 8),(rgN 9),(rgN 10),(rgN 11),(rgN 12),(rgN 13),(rgN 14),(rgN 15),(rgN 16),(rgN 17),(rgN 18),(rgN 17),(rgN 17),[0,1,2,3,4,5,6,7,8,9,10,11,12,13,14,15,16,20],[0,1,2,3,4,5,6,7,8,9,10,11,12,13,14,15,16,19,20,21],(rgN 23),(rgN 24),(rgN 25)] 300 yP (by kernel_rfl) rfl ?_);refine zF ?_;refine yS _ (fun hg22 => mP h (zO h v).cls hh (hc (by simp at hg22;exact hg22.1.1)).1 (hc (by simp at hg22;exact hg22.1.1)).2) rfl ?_;refine zF ?_;refine yS _ (fun hg23 => tK x.ver (Il.verS h (zO h v).cls)) rfl ?_;refine zF ?_;refine zC (zA (zK ?_));exact FinV.ret rfl (SubP.bool (by rw [Il.fitS];simp [-List.getD_eq_getElem?_getD]))
theorem SameSite_ok (x y : Il.Sx) : Fn Tryz.prog 21 [.agg (Il.siD x),.agg (Il.siD y)] (.v (.bool (decide (x = y)))) := by
 refine yL zJ Tryz.func21 rfl rfl rfl rfl rfl rfl ?_;intro w0 s0 mx;refine zL 100 ?_;refine zB (zE zJ [] 200 rfl ?_);refine zF ?_;refine yS _ (fun hg10 => tK _ _) rfl ?_;refine zF ?_;refine yS _ (fun hg24 => gE _ _) rfl ?_;refine zF ?_;refine zC (zA (zK ?_));exact FinV.ret rfl (SubP.bool (by rw [← Il.smX_eq];simp [Il.smX];cases x.fnd <;> cases y.fnd <;> simp))
theorem cM0 {P : Program} {K : DS → Prop} {p : Prop} {r : Out} (hr : r.sat P K) (hp : p := by first | exact ⟨hin.1,hin.2⟩ | exact ⟨rfl,hin.2⟩ | exact ⟨by simp [MR.len],by simpa [MR.len] using hin.2⟩ | rfl | (simp only [MR.len];done) | exact Dz) : (Out.need p r).sat P K := ⟨hp,hr⟩
set_option maxHeartbeats 2000000 in
theorem Attr_G (h : List Ob) (n C : Nat) (x : Il.Sx) (v : Vl) (s : ByteArray) (X : Il.Hx h n C) (I : Il.Ix h s x) (hv : qQ h v = true) (hiv : VlIn v) (hs : s.size ≤ 100) : FnG Tryz.prog 19 [.bp 0 0,.agg (Il.siD x),.agg (vlD v),.v (.string s)] (hpO h) (.tpo [.agg (stD (Il.atrS h x v s).1),.agg (Il.siD (Il.nxX h x v s)),.v (.bool (Il.fitS h x v))]) (hpO (Il.atrS h x v s).2) := by
 have g := X.g;have hh := X.hh;have hg5 := g.hi;have hvr := vC hv;have hcls : (zO h v).kind = 10 → inH h (zO h v).cls ∧ ∀ r ∈ (zX h (zO h v).cls).order,inH h r := fun hk => ⟨Gq.inst_cls g hk,fun r hr => (ords g (Gq.inst_cls g hk) r hr).1⟩;have hvl := I.vl;have hmi := I.mi;obtain ⟨R,hR⟩ : ∃ R,R = Il.atrS h x v s := ⟨_,rfl⟩;obtain ⟨N,hN⟩ : ∃ N,N = Il.nxX h x v s := ⟨_,rfl⟩;rw [← hR,← hN];refine qS zJ Tryz.func19 rfl rfl rfl rfl rfl rfl rfl ?_;intro w0 s0 mx;refine zL 100 ?_;refine zB (zE zJ [17] 200 rfl ?_);refine zF ?_;refine qK _ _ _ (vU x.ver (by omega)) ?_;refine zF ?_;refine zC (zA (zB ?_));refine yH [0,3,5,6,8,9] (rgN 6) 210 [] [(2,.box 51 (Il.siD x))] ?_;refine ⟨⟨yG,⟨⟨rfl,by repeat (first | exact trivial | exact Sub.refl _ | exact Sub.nilSl | exact Sub.ownSl rfl | exact rfl | refine ⟨?_,?_⟩)⟩,yD⟩,rfl,rfl⟩,?_⟩;refine zB (zU zJ [] mK8 300 yP (by kernel_rfl) rfl ?_);refine zF ?_;refine yN _ (dS0 h x v hh hvr hcls hvl) rfl rfl ?_;refine zF ?_;refine zC (zA (zS rfl (fun c2 => ?_) (fun c2 => ?_)))
 ·have c2w : Il.fitS h x v = true := by simpa using c2
  have hfv := Il.fit_val I c2w;refine zB (zU zJ [1032] [[],[],[],[],[3],[],[5],(rgN 7),[],(rgN 8),(rgN 10),(rgN 11)] 400 yP (by kernel_rfl) rfl ?_);refine zF ?_;refine yK _ _ (Gq.With_G h v x.val s x.fnd hh g hfv.1 hv (by rw [← hfv.2.2];exact zE1 g (Gq.inst_cls g hfv.1) s) I.vi hiv hs) rfl ?_;refine zF ?_;refine zC (zA (zK (zM ?_)));have hn : R = wiS h v s x.val x.fnd := by rw [hR,Il.atrS,Ab c2w]
  subst hn;have hn2 : N = x := by rw [hN,Il.nxX,Aa (fun h9 => by rw [c2w] at h9;cases h9.1)]
  subst hn2;rw [c2w];exact FinH.ret 2 rfl rfl (Sub.refl _) ⟨⟨rfl,Sub.mo rfl,rfl,trivial⟩,SubO.mp rfl,trivial⟩
 ·have c2w : Il.fitS h x v = false := by simpa using c2
  refine zN (zA ?_);refine xF (ι := Unit) [0,3,5,6,8,9] [0,1,3,4,5] 1000 (fun _ => []) (fun _ => [(2,.box 51 (Il.siD N))]) ?_;refine ⟨?_,fun _ => ?_⟩
  ·refine zB (zU zJ [] [[],[0],[0,1],[0,1,2],[0,1,2,3],(rgN 5),(rgN 6),(rgN 7),[0,1,2,3],[0,1,2,3,8],(rgN 10),(rgN 11),(rgN 12),(rgN 13),(rgN 14),(rgN 15),(rgN 16),(rgN 17),(rgN 18),(rgN 19)] 500 yP (by kernel_rfl) rfl ?_);repeat (first | refine zG ?_ | refine zH ?_ | refine zW (by first | (intro hh9;have hin := yJ (hvr (by simpa using hh9));first | exact ⟨hin.1,hin.2⟩ | exact ⟨rfl,hin.2⟩ | exact ⟨hin.1,by simpa [MR.len] using hin.2⟩) | exact Dz) ?_)
   refine zC (zA (zS rfl (fun c4 => ?_) (fun c4 => ?_)))
   ·have hq : v.k = 6 ∧ (zX h v.r).kind = 10 ∧ x.mis < 8 := by
     have h9 := c4;simp [-List.getD_eq_getElem?_getD] at h9;exact ⟨h9.1.1,h9.1.2,h9.2⟩
    have hob := hvr hq.1;have e9 : zO h v = zX h v.r := Ab ⟨hq.1,hob⟩;have hin := yJ hob;have hci := hcls (by rw [e9];exact hq.2.1);rw [e9] at hci;refine zB (zU zJ [] mK7 600 yP (by kernel_rfl) rfl ?_);repeat (first | refine zG ?_ | refine zH ?_ | refine cM0 ?_)
    refine zC (zA ?_);refine zB (zE zJ [] 700 rfl ?_);refine zF ?_;refine yN _ (vS h (zX h v.r).cls s hh hci.1 (Gq.cok_of hh g hci.1)) rfl rfl ?_;refine zF ?_;refine zC (zA ?_);refine zU zJ [] [[],[],[1],[1,2],[],[1,2,3,4],[],[],[],[8],[8,9],(rgN 11),(rgN 12)] 800 yP (by kernel_rfl) rfl ?_;repeat (first | refine zG ?_ | refine zH ?_ | refine cM0 ?_)
    refine yN _ (dV h (zX h v.r).cls hh hci.1 hci.2) rfl rfl ?_;repeat (first | refine zG ?_ | refine zH ?_ | refine cM0 ?_)
    refine zC ?_;have hn2 : N = Il.newX h x v s := by
     rw [hN,Il.nxX,Ab ⟨c2w,by rw [e9];exact hq.2.1,hq.2.2⟩]
    exact qG () ⟨yG,⟨⟨rfl,by rw [hn2,Il.newX,e9];exact SubL.same rfl⟩,yD⟩,rfl,rfl⟩
   ·have hq : ¬ ((zO h v).kind = 10 ∧ x.mis < 8) := by
     rintro ⟨h7,h8⟩;obtain ⟨h6,hob,eo⟩ := qD (h := h) (v := v) (by omega);rw [eo] at h7;have h9 := c4;simp [-List.getD_eq_getElem?_getD,h6,h7] at h9;omega
    refine zN ?_;have hn2 : N = x := by
     rw [hN,Il.nxX,Aa (fun h9 => hq h9.2)]
    exact qG () ⟨yG,⟨⟨rfl,by rw [hn2];exact SubL.same rfl⟩,yD⟩,rfl,rfl⟩
  refine zB (zU zJ [1088] [[],[],[],[0,1,2],[],[0,1,2,3],(rgN 6),(rgN 7)] 1100 yP (by kernel_rfl) rfl ?_);refine zF ?_;refine yK _ _ (Gq.atGetV_G h v s hh g hv hiv hs) rfl ?_;refine zF ?_;refine zC (zA (zK ?_));have hn : R = jQ h v s := by rw [hR,Il.atrS,Aa (by rw [c2w];decide)]
  subst hn;rw [c2w];exact FinH.ret 2 rfl rfl (Sub.refl _) ⟨⟨rfl,Sub.mo rfl,rfl,trivial⟩,SubO.mp rfl,trivial⟩
def swp (j k i : Nat) : Nat := match Nat.beq i j with | true => k | false => match Nat.beq i k with | true => j | false => i
theorem wB0 (j k i : Nat) : swp j k i = if i = j then k else if i = k then j else i := by
 unfold swp;by_cases h1 : i = j
 ·subst h1;rw [Nat.beq_refl];simp
 ·rw [show Nat.beq i j = false by cases hb : Nat.beq i j with | false => rfl | true => exact absurd (Ag hb) h1,Aa h1];by_cases h2 : i = k
  ·subst h2;rw [Nat.beq_refl];simp
  ·rw [show Nat.beq i k = false by cases hb : Nat.beq i k with | false => rfl | true => exact absurd (Ag hb) h2,Aa h2]
theorem xN (j k i : Nat) : swp j k (swp j k i) = i := by
 simp only [wB0];repeat' split
 all_goals omega
theorem kU0 (j k i m : Nat) : swp j k i = m ↔ i = swp j k m := ⟨fun h => by rw [← h,xN],fun h => by rw [h,xN]⟩
mutual
def D.rn (j k : Nat) : D → D
 | .bp i off => .bp (swp j k i) off
 | .own i sz rows => .own (swp j k i) sz rows
 | .mo i n => .mo (swp j k i) n
 | .mp i n x sz o => .mp (swp j k i) n x sz o
 | .mk i => .mk (swp j k i)
 | .mw i q x sz n => .mw (swp j k i) q x sz n
 | .gd c (.bp i off) => .gd c (.bp (swp j k i) off)
 | .gd c (.mo i n) => .gd c (.mo (swp j k i) n)
 | .gd c (.mp i n x sz o) => .gd c (.mp (swp j k i) n x sz o)
 | .gd c (.mk i) => .gd c (.mk (swp j k i))
 | .gd c (.mw i q x sz n) => .gd c (.mw (swp j k i) q x sz n)
 | .agg l => .agg (D.rns j k l)
 | .tpo l => .tpo (D.rns j k l)
 | .clo f l => .clo f (D.rns j k l)
 | d => d
def D.rns (j k : Nat) : List D → List D
 | [] => []
 | d :: l => d.rn j k :: D.rns j k l
end
mutual
theorem D.rn_tv (j k : Nat) (d : D) : (d.rn j k).tv = d.tv.ren (swp j k) := by
 match d with
 | .v _ => rfl
 | .tup _ => rfl
 | .sl _ _ _ _ _ => rfl
 | .slr _ _ _ => rfl
 | .pt _ _ => rfl
 | .op _ => rfl
 | .bp _ _ => rfl
 | .own _ _ _ => rfl
 | .mo _ _ => rfl
 | .mp _ _ _ _ _ => rfl
 | .mk _ => rfl
 | .mw _ _ _ _ _ => rfl
 | .gd _ (.bp _ _) => rfl
 | .gd _ (.mo _ _) => rfl
 | .gd _ (.mp _ _ _ _ _) => rfl
 | .gd _ (.mk _) => rfl
 | .gd _ (.mw _ _ _ _ _) => rfl
 | .gd _ (.v _) => rfl
 | .gd _ (.agg _) => rfl
 | .gd _ (.tup _) => rfl
 | .gd _ (.tpo _) => rfl
 | .gd _ (.clo _ _) => rfl
 | .gd _ (.sl _ _ _ _ _) => rfl
 | .gd _ (.slr _ _ _) => rfl
 | .gd _ (.pt _ _) => rfl
 | .gd _ (.own _ _ _) => rfl
 | .gd _ (.op _) => rfl
 | .gd _ (.gd _ _) => rfl
 | .agg l => rw [D.rn,D.tv,D.tv,TV.ren,D.rns_tv j k l]
 | .tpo l => rw [D.rn,D.tv,D.tv,TV.ren,D.rns_tv j k l]
 | .clo f l => rw [D.rn,D.tv,D.tv,TV.ren,D.rns_tv j k l]
theorem D.rns_tv (j k : Nat) (l : List D) : D.tvl (D.rns j k l) = TV.rens (swp j k) (D.tvl l) := by
 match l with
 | [] => rfl
 | d :: l => rw [D.rns,D.tvl,D.tvl,TV.rens,D.rn_tv j k d,D.rns_tv j k l]
end
def DOwn.rn (j k : Nat) : DOwn → DOwn
 | .box ty cs => .box ty (D.rns j k cs)
 | c => c
theorem DOwn.rn_o (j k : Nat) (c : DOwn) : (c.rn j k).o = c.o.ren (swp j k) := by
 cases c with
 | box ty cs => show Own.box ty (D.tvl (D.rns j k cs)) = Own.box ty (TV.rens (swp j k) (D.tvl cs));rw [D.rns_tv]
 | _ => rfl
def rnT (j k : Nat) : List (Nat × D) → List (Nat × D)
 | [] => []
 | (t,d) :: l => (t,d.rn j k) :: rnT j k l
def rnW (j k : Nat) : List (Nat × DOwn) → List (Nat × DOwn)
 | [] => []
 | (i,c) :: l => (swp j k i,c.rn j k) :: rnW j k l
theorem mL0 (j k : Nat) : ∀ l : List (Nat × D),tvs (rnT j k l) = (tvs l).map fun x => (x.1,x.2.ren (swp j k))
 | [] => rfl
 | (t,d) :: l => by
  show (t,(d.rn j k).tv) :: tvs (rnT j k l) = (t,d.tv.ren (swp j k)) :: _;rw [D.rn_tv,mL0 j k l];rfl
theorem uT0 (j k : Nat) : ∀ l : List (Nat × DOwn),ows (rnW j k l) = renL (swp j k) (ows l)
 | [] => rfl
 | (i,c) :: l => by
  show (swp j k i,(c.rn j k).o) :: ows (rnW j k l) = (swp j k i,c.o.ren (swp j k)) :: _;rw [DOwn.rn_o,uT0 j k l];rfl
theorem tT0 (j k t : Nat) : ∀ l : List (Nat × TV),fnd t (l.map fun x => (x.1,x.2.ren (swp j k))) = (fnd t l).map (TV.ren (swp j k))
 | [] => rfl
 | (i,d) :: l => by
  rw [Bh,yE,yE,tT0 j k t l];split <;> rfl
theorem tS0 (j k t : Nat) : ∀ l : List (Nat × Own),fnd t (renL (swp j k) l) = (fnd (swp j k t) l).map (Own.ren (swp j k))
 | [] => rfl
 | (i,c) :: l => by
  show fnd t ((swp j k i,c.ren (swp j k)) :: renL (swp j k) l) = _;rw [yE,yE,tS0 j k t l];by_cases h : i = swp j k t
  ·rw [Ab h,Ab ((kU0 j k i t).2 h)];rfl
  ·rw [Aa h,Aa fun e => h ((kU0 j k i t).1 e)]
section
variable {P : Program} {b : Ba}
def rnOk (j k nx : Nat) (tm : List (Nat × D)) (ow : List (Nat × DOwn)) : Bool := match ((Nat.ble 40 j && Nat.ble 40 k) && (Nat.blt j nx && Nat.blt k nx)) with | true => (match idT nx tm with | true => idW nx ow | false => false) | false => false
theorem Rel.rn (j k : Nat) {w : World} {s : Sb} {g : Gh} {a : Act} {tm : List (Nat × D)} {ow : List (Nat × DOwn)} {nx : Nat} (h0 : rnOk j k nx tm ow = true) (hr : Rel b w s g (DS.ste ⟨tm,ow,nx⟩) a) :
  Rel b w s ⟨fun i => g.bx (swp j k i),fun i m => g.gn (swp j k i) m⟩ (DS.ste ⟨rnT j k tm,rnW j k ow,nx⟩) a := by
 obtain ⟨h1,h2,h3⟩ : ((Nat.ble 40 j && Nat.ble 40 k) && (Nat.blt j nx && Nat.blt k nx)) = true ∧ idT nx tm = true ∧ idW nx ow = true := by
  unfold rnOk at h0;split at h0
  ·rename_i e1;split at h0
   ·rename_i e2;exact ⟨e1,e2,h0⟩
   ·cases h0
  ·cases h0
 simp only [Ah] at h1;have hj : 40 ≤ j := As h1.1.1;have hk : 40 ≤ k := As h1.1.2;have hjn : j < nx := As h1.2.1;have hkn : k < nx := As h1.2.2;have hlt : ∀ i,i < nx → swp j k i < nx := fun i hi => by
  rw [wB0];repeat' split
  all_goals omega
 have hge : ∀ i,nx ≤ i → swp j k i = i := fun i hi => by
  rw [wB0,Aa (by omega),Aa (by omega)]
 have hlo : ∀ i,i < 40 → swp j k i = i := fun i hi => by
  rw [wB0,Aa (by omega),Aa (by omega)]
 have hG : GEq nx (swp j k) g ⟨fun i => g.bx (swp j k i),fun i m => g.gn (swp j k i) m⟩ := ⟨fun i _ => by show g.bx (swp j k (swp j k i)) = _;rw [xN],fun i m _ => by show g.gn (swp j k (swp j k i)) m = _;rw [xN]⟩;have hT := uZ0 h2;have hW := kI h3;have hw : ∀ i c,fnd i (ows ow) = some c → i < nx ∧ idO nx c = true := fun i c hf => by
  have := Bd.1 hW _ (jL hf);simp only [Ah] at this;exact ⟨As this.1,this.2⟩
 have key : ∀ i c,fnd i (renL (swp j k) (ows ow)) = some c → ∃ c0,fnd (swp j k i) (ows ow) = some c0 ∧ c = c0.ren (swp j k) := fun i c hf => by
  rw [tS0] at hf
  cases hx : fnd (swp j k i) (ows ow) with
  | none => rw [hx] at hf;cases hf
  | some c0 => rw [hx] at hf;cases hf;exact ⟨c0,rfl,rfl⟩
 have bk : ∀ i c0,fnd (swp j k i) (ows ow) = some c0 → blk ⟨fun i => g.bx (swp j k i),fun i m => g.gn (swp j k i) m⟩ i (c0.ren (swp j k)) = blk g (swp j k i) c0 := fun i c0 hf => by
  have := pQ hG (hw _ _ hf).1 c0;rw [xN] at this;exact this
 refine ⟨hr.kp,hr.lt,hr.sz,fun t d hf => ?_,fun i c hf => ?_,fun i i' c c' N hf hf' hne hb => ?_,fun i hi => ?_,hr.df,fun i hi => ?_⟩
 ·have hf : fnd t (tvs (rnT j k tm)) = some d := hf;rw [mL0,tT0] at hf
  cases hx : fnd t (tvs tm) with
  | none => rw [hx] at hf;cases hf
  | some d0 =>
   rw [hx] at hf;cases hf;obtain ⟨v,g1,g2⟩ := hr.tm t d0 hx;exact ⟨v,g1,(TV.ren_iff hG (Bd.1 hT _ (jL hx))).2 g2⟩
 ·have hf : fnd i (ows (rnW j k ow)) = some c := hf;rw [uT0] at hf;obtain ⟨c0,g1,rfl⟩ := key i c hf;obtain ⟨g2,g3⟩ := hr.ow _ c0 g1;refine ⟨?_,fun N hN => g3 N (by rw [bk i c0 g1] at hN;exact hN)⟩;have := (Ok1.ren_iff (w := w) (s := s) hG (hw _ _ g1).1 (hw _ _ g1).2).2 g2;rw [xN] at this;exact this
 ·have hf : fnd i (ows (rnW j k ow)) = some c := hf;have hf' : fnd i' (ows (rnW j k ow)) = some c' := hf';rw [uT0] at hf hf';obtain ⟨c0,g1,rfl⟩ := key i c hf;obtain ⟨c1,g2,rfl⟩ := key i' c' hf';rw [bk i' c1 g2];rw [bk i c0 g1] at hb;exact hr.sep _ _ c0 c1 N g1 g2 (fun e => hne (by rw [← xN j k i,e,xN])) hb
 ·have hi : nx ≤ i := hi;show g.bx (swp j k i) = none ∧ ∀ m,g.gn (swp j k i) m = none;rw [hge i hi];exact hr.fr i hi
 ·show (∀ N,b.g0.bx i = some N → g.bx (swp j k i) = some N) ∧ ∀ m v,b.g0.gn i m = some v → g.gn (swp j k i) m = some v;rw [hlo i hi];exact hr.gb i hi
theorem ev_ren (j k : Nat) {c : Code} {tm : List (Nat × D)} {ow : List (Nat × DOwn)} {nx : Nat} {K : Exit → DS → Prop} (h0 : rnOk j k nx tm ow = true)
  (h : Ev P b c ⟨rnT j k tm,rnW j k ow,nx⟩ K) : Ev P b c ⟨tm,ow,nx⟩ K := fun w s _ a Q hr hK => h w s _ a Q (hr.rn j k h0) hK
end
variable {md me : Bool}
theorem cI0 (h : List Ob) (hh : HpIn h) : FnG Tryz.prog 10 [.agg [.mo 0 h.length]] [.mrow 36 10 (.map h obD ob0)] (.agg [.mo 1 h.length]) [.mrow 36 10 (.map h obD ob0),.mrow 36 10 (.map h obD ob0)] := by
 have hhl := hh.len;refine qS zJ Tryz.func10 rfl rfl rfl rfl rfl rfl rfl ?_;intro w0 s0 mx;refine zL 100 ?_;refine zL 200 ?_;refine wP 100 0 36 10 rfl rfl ?_;refine zB ?_;refine kM 200 rfl ?_;refine zL 300 ?_;refine zR ?_;refine yC (ι := {k : Nat // k ≤ h.length}) [2,3,7,8] [0,2] 350 (fun x => [(9,.v (.int .i64 x.1))]) (fun x => [(100,.box 24 [.mo 200 (h.take x.1).length]),(200,.mrow 36 10 (.map (h.take x.1) obD ob0))]) (fun x => h.length - x.1) ⟨0,Ap _⟩ ?_;refine ⟨⟨yG,⟨⟨rfl,Sub.mo rfl,rfl,trivial⟩,SubO.mr rfl,yD⟩,rfl,rfl⟩,fun x => ?_⟩;have hk : x.1 ≤ h.length := x.2;refine zL 400 ?_;refine zB (zZ (fun c3 => ?_) (fun c3 => ?_))
 ·
  refine zN (zA (zB (zR ?_)));have hob : ObIn (h.getD ((x.1 : Nat) : Int).toNat ob0) := hh.ob _ (xE0 ob0 c3);refine zB (zE zJ [] 500 rfl ?_);repeat (first | refine zG ?_ | refine zH ?_ | refine zW (by first | exact ⟨rfl,c3⟩ | exact Dz) ?_)
  refine zC (zA ?_);refine zB (zU zJ [15,18,21] mK10 600 yP (by kernel_rfl) rfl ?_);refine zF ?_;refine qK _ _ _ (vU _ hob.rl) ?_;refine zF ?_;refine qK _ _ _ (vU _ hob.ol) ?_;refine zF ?_;refine qK _ _ _ (tR _ hob.nl) ?_;refine zF ?_;refine zC (zA ?_);refine zB (zU zJ [27,30] mK11 700 yP (by kernel_rfl) rfl ?_);refine zF ?_;refine qK _ _ _ (mL _ hob.il hob.iv) ?_;refine zF ?_;refine qK _ _ _ (mL _ hob.kl hob.kv) ?_;refine zF ?_;refine zC (zA ?_);refine zE zJ [] 800 rfl ?_;repeat (first | refine zG ?_ | refine zH ?_ | refine zW (by first | rfl | (simp only [MR.len,Au,Ak,Aq];have := hh.len;omega) | exact Dz) ?_)
  refine zC (zP (zA (yT zJ [] 900 ?_)));exact zV (⟨x.1 + 1,by omega⟩) ⟨⟨Sub.int (by push_cast;rfl),yG⟩,⟨⟨rfl,Sub.mo (by rw [kR0 c3];rfl),rfl,trivial⟩,SubO.mp (by show D.pvss (List.map obD _ ++ [_]) = D.pvss (List.map obD _);rw [uJ0 ob0 c3,pvss_snoc,pvss_snoc,tB0]),yD⟩,rfl,rfl⟩ (by show h.length - (x.1 + 1) < h.length - x.1;omega)
 ·
  refine yF (yA (yB (zY (zA (zL 1000 ?_)))));refine zK ?_;have e : h.take x.1 = h := An (by omega);exact FinH.ret 200 rfl rfl (by rw [e];exact Sub.refl _) ⟨SubO.mr rfl,SubO.mr (by rw [e]),trivial⟩
set_option maxHeartbeats 4000000 in
theorem Law36_ok (h : List Ob) (m : Int) (v w : Vl) (s : ByteArray) (u : Vl) (hh0 : HpIn h) (hiv : VlIn v) (hiw : VlIn w) (hiu : VlIn u) : Fn Tryz.prog 4 [hpD md h,.v (.int .i64 m),.agg (vlD v),.agg (vlD w),.v (.string s),.agg (vlD u)] (.v (.bool true)) := by
 have hhl0 := hh0.len;refine yL zJ Tryz.func4 rfl rfl rfl rfl rfl rfl ?_;intro w0 s0 mx;refine zL 100 ?_;refine zB ?_;refine zB (zE zJ [] 200 rfl ?_);refine zF ?_;refine zT _ ((Usable_ok h [v,w,u] hh0 (fun y hy => by
   simp only [Be,Du,or_false] at hy;rcases hy with rfl | rfl | rfl
   ·exact hiv
   ·exact hiw
   ·exact hiu) (by show 3 ≤ 2000000;decide)).args ⟨SubP.refl _,SubP.slrSl rfl,trivial⟩) rfl ?_
 refine zF ?_;refine yS _ (fun hg9 => NameText_ok _) rfl ?_;refine zF ?_;refine zC (zA (zS rfl (fun c1 => ?_) (fun c1 => ?_)))
 ·
  refine zL 300 ?_;refine zK (zM ?_);exact FinV.ret rfl (SubP.refl _)
 ·have hu : mY h [v,w,u] = true ∧ uZ s = true ∧ 0 ≤ m ∧ m ≤ 16 := by
   have h9 := c1;simp at h9;exact ⟨h9.1.1.1,h9.1.1.2,h9.1.2,h9.2⟩
  have hq : (qR h).1 = 0 ∧ qQ h v = true ∧ qQ h w = true ∧ qQ h u = true := by
   have hu1 := hu.1;simp only [mY,Ah,Am,List.all_cons,List.all_nil] at hu1;exact ⟨hu1.1,hu1.2.1,hu1.2.2.1,hu1.2.2.2.1⟩
  have g0 : Uh h := cK0 hq.1;have hs : s.size ≤ 100 := by have := kE hu.2.1;omega
  have hgu := yZ1 (tN0 hiu hq.2.2.2);have hx0 := Il.hx_of g0 hh0 hq.1;have hm := hu.2.2;refine zN (zA ?_);refine zB (zU zJ [1051,1053] [[],[0],[],[0,1,2],[],[],(rgN 6),(rgN 7)] 400 yP (by kernel_rfl) rfl ?_);refine zF ?_;refine yK _ _ (cJ0 h hh0) rfl ?_;refine zF ?_;refine yK _ _ (cJ0 h hh0) rfl ?_;refine zF ?_;refine zC (zA (zL 500 ?_));refine zB ?_;refine yH [4,8,9,11,13,14,15] [1,2,3,204,205,402] 510 [] [(201,.mrow 36 10 (.map h obD ob0)),(203,.mrow 36 10 (.map h obD ob0)),(204,.box 24 [.mo 201 h.length]),(205,.box 24 [.mo 203 h.length]),(402,.box 51 (Il.siD ⟨0,[],false,vl0,m⟩))] ?_;refine ⟨⟨yG,⟨SubO.mp rfl,SubO.mp rfl,⟨rfl,SubL.same rfl⟩,⟨rfl,SubL.same rfl⟩,⟨rfl,by repeat (first | exact trivial | exact Sub.refl _ | exact Sub.nilSl | exact rfl | refine ⟨?_,?_⟩)⟩,yD⟩,rfl,rfl⟩,?_⟩;refine zL 600 ?_;refine yH [4,9,11,13,14,15,61,62] [2,3,201,203,204,205,402] 610 [(60,vsD [v,v,w,v])] [] ?_;refine ⟨⟨⟨Sub.slrSl rfl,yG⟩,yD,rfl,rfl⟩,?_⟩;refine zR ?_;refine yC (ι := Il.Lp v w s) [4,9,11,13,14,15,60,61] [2,3] 650 (fun x => [(62,.v (.int .i64 x.k))]) (fun x => [(201,.mrow 36 10 (.map x.H obD ob0)),(203,.mrow 36 10 (.map x.H obD ob0)),(204,.box 24 [.mo 201 x.H.length]),(205,.box 24 [.mo 203 x.H.length]),(402,.box 51 (Il.siD x.S))]) (fun x => 4 - x.k) ⟨0,Ap _,h,⟨0,[],false,vl0,m⟩,hx0.up (by omega) (by unfold Il.coI;omega),⟨.inl rfl,vV0,(fun _ h => by cases h),Ap _,⟨hm.1,by show m ≤ 100;omega⟩,by show -9223372036854775808 ≤ (0 : Int) ∧ (0 : Int) ≤ 9223372036854775807;decide⟩,hq.2.1,hq.2.2.1⟩ ?_;refine ⟨⟨⟨Sub.int rfl,yG⟩,⟨SubO.mp rfl,SubO.mp rfl,⟨rfl,Sub.mo rfl,rfl,trivial⟩,⟨rfl,Sub.mo rfl,rfl,trivial⟩,⟨rfl,SubL.same rfl⟩,yD⟩,rfl,rfl⟩,fun x => ?_⟩;have hk := x.le;have X := x.hx;have g := X.g;have hh := X.hh;have hhl := g.hi;have hmi := x.ix.mi;have hvl := x.ix.vl;refine zL 700 ?_;refine zB (zS rfl (fun c6 => ?_) (fun c6 => ?_))
  ·have c6w : x.k < 4 := by
    have h9 : (x.k : Int) < 4 := by simpa using c6
    omega
   refine zN (zA (zB (zR (zL 800 ?_))));obtain ⟨Y,hY⟩ : ∃ Y,Y = [v,v,w,v].getD x.k vl0 := ⟨_,rfl⟩;have hYm : Y = v ∨ Y = w := by
    have h9 : x.k = 0 ∨ x.k = 1 ∨ x.k = 2 ∨ x.k = 3 := by omega
    rcases h9 with e | e | e | e
    ·rw [hY,e];exact .inl rfl
    ·rw [hY,e];exact .inl rfl
    ·rw [hY,e];exact .inr rfl
    ·rw [hY,e];exact .inl rfl
   have hyH : qQ x.H Y = true := by
    rcases hYm with e | e
    ·rw [e];exact x.hv
    ·rw [e];exact x.hw
   have hyi : VlIn Y := by
    rcases hYm with e | e
    ·rw [e];exact hiv
    ·rw [e];exact hiw
   have hyr := vC hyH;have hcls : (zO x.H Y).kind = 10 → inH x.H (zO x.H Y).cls ∧ ∀ r ∈ (zX x.H (zO x.H Y).cls).order,inH x.H r := fun hk => ⟨Gq.inst_cls g hk,fun r hr => (ords g (Gq.inst_cls g hk) r hr).1⟩;have rd := Il.rd_ok X (by omega) x.ix hyi hyH hs;have r1 := rd.hx;have r2 := rd.ix;have r3 : ∀ {y : Vl},qQ x.H y = true → qQ (jQ x.H Y s).2 y = true := rd.has;have r4 := rd.len;have r5 := rd.st;have cA := Attr_G x.H _ _ x.S Y s X x.ix hyH hyi hs;rw [Il.atr_eq x.ix] at cA;have cD := Gq.GetV_G x.H Y s hh g hyH hyi hs;have cF1 := SiteFits_ok (md := true) x.H x.S Y hh hyr hcls hvl;have cF2 := dS0 (md := true) x.H x.S Y hh hyr hcls hvl;obtain ⟨H,hH⟩ : ∃ H,H = (jQ x.H Y s).2 := ⟨_,rfl⟩;obtain ⟨R,hR⟩ : ∃ R,R = (jQ x.H Y s).1 := ⟨_,rfl⟩;obtain ⟨F,hF⟩ : ∃ F,F = Il.fitS x.H x.S Y := ⟨_,rfl⟩;obtain ⟨N,hN⟩ : ∃ N,N = Il.nxX x.H x.S Y s := ⟨_,rfl⟩;rw [← hH,← hR,← hF,← hN] at cA;rw [← hH,← hR] at cD;rw [← hF] at cF1 cF2;rw [← hH] at r1 r3 r4;rw [← hH,← hN] at r2;rw [← hH,← hR] at r5;have hco := r1.co;have hcl := Il.coI_le hk;have hgH := r1.g.hi;have sk := skc_step r1.hc (by omega) r5 (by omega);refine yH [4,9,11,13,14,15,17,60,61,62] [2,3,201,203,204,205,402,702] 810 [] [(702,.box 29 (vlD Y))] ?_;refine ⟨⟨yG,⟨⟨rfl,by rw [hY];exact SubL.same rfl⟩,yD⟩,rfl,rfl⟩,?_⟩;refine zL 900 ?_;refine zB (zE zJ [1070] 1000 rfl ?_);refine zF ?_;refine yK _ _ (cI0 x.H hh) rfl ?_;refine zF ?_;refine zC (zA ?_);refine yH [4,9,11,13,14,15,17,18,19,60,61,62] [2,3,201,203,204,205,402,702,902] 1010 [] [(201,.mrow 36 10 (.map x.H obD ob0)),(204,.box 24 [.mo 201 x.H.length]),(901,.mrow 36 10 (.map x.H obD ob0)),(902,.box 24 [.mo 901 x.H.length])] ?_;refine ⟨⟨yG,⟨SubO.mp rfl,⟨rfl,Sub.mo rfl,rfl,trivial⟩,SubO.mp rfl,⟨rfl,Sub.mo rfl,rfl,trivial⟩,yD⟩,rfl,rfl⟩,?_⟩;refine uQ 901 rfl (by repeat (first | exact trivial | exact rfl | exact (fun _ => rfl) | exact (fun h => absurd h (by decide)) | refine ⟨?_,?_⟩)) (by repeat (first | exact trivial | exact rfl | exact (fun _ => rfl) | exact (fun h => absurd h (by decide)) | refine ⟨?_,?_⟩)) ?_;refine yH [4,9,11,13,14,15,17,18,19,60,61,62] [2,3,201,203,204,205,402,702,902] 1020 [] [(902,.box 24 [.sl false 10 (x.H) obD ob0])] ?_;refine ⟨⟨yG,⟨⟨rfl,Sub.ownSl rfl,rfl,trivial⟩,yD⟩,rfl,rfl⟩,?_⟩;refine zB (zE zJ [] 1100 rfl ?_);refine zF ?_;refine yN _ (cF1) rfl rfl ?_;refine zF ?_;refine zC (zA (zB ?_));refine zB (zE zJ [] 1200 rfl ?_);refine zF ?_;refine yN _ (cF2) rfl rfl ?_;refine zF ?_;refine zC (zA (zZ (fun c11 => ?_) (fun c11 => ?_)))
   ·
    simp at c11
   ·
    refine zN (zA (zL 1400 ?_));refine xF (ι := Unit) [4,9,11,13,14,15,17,18,19,20,21,60,61,62] [2,3,201,203,204,205,402,702,902] 2000 (fun _ => []) (fun _ => [(1201,.box 51 (Il.siD N))]) ?_;refine ⟨?_,fun _ => ?_⟩
    ·refine zB (zE zJ [] 1500 rfl ?_);refine zF ?_;refine yN _ (qJ x.H Y) rfl rfl ?_;refine zF ?_;refine zC (zA ?_);refine yH [4,9,11,13,14,15,17,18,19,20,21,22,60,61,62] [2,3,201,203,204,205,402,702,902,1201,1403] 1510 [] [(1403,.box 36 (obD (zO x.H Y)))] ?_;refine ⟨⟨yG,⟨⟨rfl,SubL.same rfl⟩,yD⟩,rfl,rfl⟩,?_⟩;refine zL 1600 ?_;refine zS rfl (fun c15 => ?_) (fun c15 => ?_)
     ·obtain ⟨hq1,hq2,hq3⟩ : F = false ∧ (zO x.H Y).kind = 10 ∧ x.S.mis < 8 := by
       have h9 := c15;simp at h9;exact ⟨h9.1.1,h9.1.2,h9.2⟩
      have hci := hcls hq2;refine zB (zE zJ [] 1700 rfl ?_);refine zF ?_;refine yN _ (vI x.H (zO x.H Y).cls s hh hci.1 (Gq.cok_of hh g hci.1)) rfl rfl ?_;refine zF ?_;refine zC (zA ?_);refine zU zJ [] [[],[0],[],[],[3],[2,3,4],[],[],[],[8],[8,9],(rgN 11),(rgN 12)] 1800 yP (by kernel_rfl) rfl ?_;refine zF ?_;refine yN _ (mP x.H (zO x.H Y).cls hh hci.1 hci.2) rfl rfl ?_;refine zF ?_;refine zC ?_;have hn2 : N = Il.newX x.H x.S Y s := by
       rw [hN,Il.nxX,Ab ⟨by rw [← hF];exact hq1,hq2,hq3⟩]
      exact qG () ⟨yG,⟨⟨rfl,by rw [hn2,Il.newX];exact SubL.same rfl⟩,yD⟩,rfl,rfl⟩
     ·have hqn : ¬ (Il.fitS x.H x.S Y = false ∧ (zO x.H Y).kind = 10 ∧ x.S.mis < 8) := by
       rintro ⟨h7,h8,h6⟩;rw [← hF] at h7;have h9 := c15;simp [h7,h8] at h9;omega
      refine zN ?_;have hn2 : N = x.S := by
       rw [hN,Il.nxX,Aa hqn]
      exact qG () ⟨yG,⟨⟨rfl,by rw [hn2];exact SubL.same rfl⟩,yD⟩,rfl,rfl⟩
    refine zB (zE zJ [1121] 2100 rfl ?_);refine zF ?_;refine yK _ _ (cA) rfl ?_;refine zF ?_;refine zC (zA ?_);refine yH [4,9,11,13,14,15,17,18,19,20,21,25,26,27,60,61,62] [2,3,201,203,204,205,402,702,902,1201,2008,2009] 2110 [] [(201,.mrow 36 10 (.map H obD ob0)),(204,.box 24 [.mo 201 H.length]),(2008,.box 43 (stD R)),(2009,.box 51 (Il.siD N))] ?_;refine ⟨⟨yG,⟨SubO.mp rfl,⟨rfl,Sub.mo rfl,rfl,trivial⟩,⟨rfl,SubL.same rfl⟩,⟨rfl,SubL.same rfl⟩,yD⟩,rfl,rfl⟩,?_⟩;refine zB (zE zJ [1127] 2200 rfl ?_);refine zF ?_;refine yK _ _ (cD) rfl ?_;refine zF ?_;refine zC (zA (zB ?_));refine yH [4,9,11,13,14,15,18,19,20,21,25,26,27,28,60,61,62] [2,3,201,203,204,205,402,902,1201,2008,2009,2113] 2210 [] [(203,.mrow 36 10 (.map H obD ob0)),(205,.box 24 [.mo 203 H.length]),(2113,.box 43 (stD R))] ?_;refine ⟨⟨yG,⟨SubO.mp rfl,⟨rfl,Sub.mo rfl,rfl,trivial⟩,⟨rfl,SubL.same rfl⟩,yD⟩,rfl,rfl⟩,?_⟩;refine zB (zE zJ [] 2300 rfl ?_);refine zF ?_;refine yS _ (fun hg6 => SameSite_ok N N) rfl ?_;refine zF ?_;refine xP (fun hz9 => ?_) (fun hz9 => by exfalso;revert hz9;simp;omega);refine zF ?_;refine xP (fun hz9 => ?_) (fun hz9 => by exfalso;revert hz9;simp;omega);refine zF ?_;refine dH _ (fun hg22 => ((SameStepEffect_ok x.H H R H R (by omega) r5.i r5.i sk sk).out (SubP.bool (sameE_self r4)))) rfl rfl ?_;refine zF ?_;refine zC (zA (zZ (fun c20 => ?_) (fun c20 => ?_)))
    ·
     simp at c20;omega
    ·
     refine zN (zA ?_);refine zB (zE zJ [1154] 2400 rfl ?_);refine zF ?_;refine yK _ _ (cI0 H r1.hh) rfl ?_;refine zF ?_;refine zC (zA ?_);refine yH [4,9,11,13,14,15,26,60,61,62] [2,3,201,203,204,205,402,2009] 2410 [] [(201,.mrow 36 10 (.map H obD ob0)),(204,.box 24 [.mo 201 H.length]),(2301,.mrow 36 10 (.map H obD ob0)),(205,.box 24 [.mo 2301 H.length])] ?_;refine ⟨⟨yG,⟨SubO.mp rfl,⟨rfl,Sub.mo rfl,rfl,trivial⟩,SubO.mp rfl,⟨rfl,Sub.mo rfl,rfl,trivial⟩,yD⟩,rfl,rfl⟩,?_⟩;refine ev_ren 203 2301 rfl ?_;refine yH [4,9,11,13,14,15,26,60,61,62] [2,3,201,203,204,205,402,2009] 2420 [] [(201,.mrow 36 10 (.map H obD ob0)),(203,.mrow 36 10 (.map H obD ob0)),(204,.box 24 [.mo 201 H.length]),(205,.box 24 [.mo 203 H.length])] ?_;refine ⟨⟨yG,⟨SubO.mp rfl,SubO.mp rfl,⟨rfl,Sub.mo rfl,rfl,trivial⟩,⟨rfl,Sub.mo rfl,rfl,trivial⟩,yD⟩,rfl,rfl⟩,?_⟩;refine zL 2500 ?_;refine yH [4,9,11,13,14,15,60,61,62] [2,3,201,203,204,205,402] 2510 [] [(402,.box 51 (Il.siD N))] ?_;refine ⟨⟨yG,⟨⟨rfl,SubL.same rfl⟩,yD⟩,rfl,rfl⟩,?_⟩;refine zB (zE zJ [] 2600 rfl ?_);refine zF ?_;refine yN _ (qJ H w) rfl rfl ?_;refine zF ?_;refine zC (zA ?_);refine yH [4,9,11,13,14,15,29,60,61,62] [2,3,201,203,204,205,402,2513] 2610 [] [(2513,.box 36 (obD (zO H w)))] ?_;refine ⟨⟨yG,⟨⟨rfl,SubL.same rfl⟩,yD⟩,rfl,rfl⟩,?_⟩;refine zL 2700 ?_;refine zS rfl (fun c25 => ?_) (fun c25 => ?_)
     ·obtain ⟨hq5,hq6,hq7⟩ : (zO H w).kind = 10 ∧ 49 ≤ (zO H w).cls ∧ u.k = 2 := by
       have h9 := c25;simp at h9;exact ⟨h9.1.1,h9.1.2,h9.2⟩
      have ws := Il.ws_ok r1 (by omega) r2 hq5 hq6 hs (Il.Gc.int hgu (by omega)) (by omega);have cW := Gq.Set_G H (rfV (zO H w).cls) s u r1.hh r1.g (Il.has_rf (Il.i9 r1 hq5)) hs;have cC := Gq.ChangeF_G H (rfV (zO H w).cls) s u r1.hh r1.g (Il.has_rf (Il.i9 r1 hq5)) hs;have w1 := ws.hx;have w2 := ws.ix;have w3 : ∀ {y : Vl},qQ H y = true → qQ (setS H (rfV (zO H w).cls) s u).2 y = true := ws.has;obtain ⟨H2,hH2⟩ : ∃ H2,H2 = (setS H (rfV (zO H w).cls) s u).2 := ⟨_,rfl⟩;rw [← hH2] at cW cC w1 w2 w3;rw [Il.coI_succ] at w1;refine zB (zU zJ [1177] mK8 2800 yP (by kernel_rfl) rfl ?_);refine zF ?_;refine zT _ (jW _) rfl ?_;refine zF ?_;refine yK _ _ (cW) rfl ?_;refine zF ?_;refine zC (zA ?_);refine yH [4,9,11,13,14,15,29,60,61,62] [2,3,201,203,204,205,402,2513] 2810 [] [(201,.mrow 36 10 (.map H2 obD ob0)),(204,.box 24 [.mo 201 H2.length])] ?_;refine ⟨⟨yG,⟨SubO.mp rfl,⟨rfl,Sub.mo rfl,rfl,trivial⟩,yD⟩,rfl,rfl⟩,?_⟩;refine zU zJ [1183] mK8 2900 yP (by kernel_rfl) rfl ?_;refine zF ?_;refine zT _ (O_ok _) rfl ?_;refine zF ?_;refine yK _ _ (cC) rfl ?_;refine zF ?_;refine zC (zP (zA ?_));refine yH [4,9,11,13,14,15,60,61,62] [2,3,201,203,204,205,402] 2910 [] [(203,.mrow 36 10 (.map H2 obD ob0)),(205,.box 24 [.mo 203 H2.length])] ?_;refine ⟨⟨yG,⟨SubO.mp rfl,⟨rfl,Sub.mo rfl,rfl,trivial⟩,yD⟩,rfl,rfl⟩,?_⟩;refine yT zJ [] 3000 ?_;exact zV (⟨x.k + 1,by omega,H2,N,w1.up (by omega) (Ar _),w2,w3 (r3 x.hv),w3 (r3 x.hw)⟩ : Il.Lp v w s) ⟨⟨Sub.int (by push_cast;rfl),yG⟩,⟨SubO.mp rfl,SubO.mp rfl,⟨rfl,Sub.mo rfl,rfl,trivial⟩,⟨rfl,Sub.mo rfl,rfl,trivial⟩,⟨rfl,SubL.same rfl⟩,yD⟩,rfl,rfl⟩ (by show 4 - (x.k + 1) < 4 - x.k;omega)
     ·
      refine zN (zP (zA (yT zJ [] 2900 ?_)));exact zV (⟨x.k + 1,by omega,H,N,r1.up (by omega) (by rw [← Il.coI_succ];omega),r2,r3 x.hv,r3 x.hw⟩ : Il.Lp v w s) ⟨⟨Sub.int (by push_cast;rfl),yG⟩,⟨SubO.mp rfl,SubO.mp rfl,⟨rfl,Sub.mo rfl,rfl,trivial⟩,⟨rfl,Sub.mo rfl,rfl,trivial⟩,⟨rfl,SubL.same rfl⟩,yD⟩,rfl,rfl⟩ (by show 4 - (x.k + 1) < 4 - x.k;omega)
  ·
   refine yF (yA (yB (zY (zA (zL 3000 ?_)))));refine zK ?_;exact FinV.ret rfl (SubP.refl _)
open Go.ChangeShapes Go.WideShapes Go.ChangeAt Go.RowKit Go.Deep
theorem gB0 {H : Type} {d : DataW H} {l : List (DataW H)} (h : d ∈ l) : Rows.uptoBulk d ≤ Rows.uptoBulkAll l := by
 induction l with
 | nil => cases h
 | cons x r ih =>
  simp only [Rows.uptoBulkAll]
  cases Be.1 h with
  | inl e => subst e;omega
  | inr e => have := ih e;omega
theorem bulk_one {H : Type} (d : DataW H) : 1 ≤ Rows.uptoBulk d := by
 cases d with
 | lit l => cases l <;> simp [Rows.uptoBulk]
 | nil => simp [Rows.uptoBulk]
 | ptr d => simp [Rows.uptoBulk]
 | slice elems spare => simp [Rows.uptoBulk]
 | agg parts => simp [Rows.uptoBulk]
 | iface t d => simp [Rows.uptoBulk]
 | map entries => simp [Rows.uptoBulk]
 | held h => simp [Rows.uptoBulk]
theorem bulk_length {H : Type} (l : List (DataW H)) : l.length ≤ Rows.uptoBulkAll l := by
 induction l with
 | nil => simp [Rows.uptoBulkAll]
 | cons x r ih => have := bulk_one x;simp only [Rows.uptoBulkAll,Ak];omega
theorem qL {H : Type} {l : List (DataW H × List MemPlace)} {i : Nat} {y : DataW H × List MemPlace} (h : l[i]? = some y) {n : Nat} (hn : Rows.uptoBulk (DataW.agg (l.map (·.1))) ≤ n) : Rows.uptoBulk y.1 ≤ n := by
 have h1 : y.1 ∈ l.map (·.1) := Bv.2 ⟨y,Bb h,rfl⟩;have h2 := gB0 h1;simp only [Rows.uptoBulk] at hn;omega
def sW (W : World) : Sb := ⟨fun b _ => b < W.heap.size,fun b _ => b < W.heap.size,fun _ _ h => h⟩
def I64 (x : Int) : Prop := -9223372036854775808 ≤ x ∧ x ≤ 9223372036854775807
theorem i64_wf {x : Int} (h : (Lit.int .i64 x).wf = true) : I64 x := by
 simp [Lit.wf] at h;have h1 : IntKind.i64.min = -9223372036854775808 := by decide
 have h2 : IntKind.i64.max = 9223372036854775807 := by decide
 unfold I64;omega
theorem u32_wf {x : Int} (h : (Lit.int .u32 x).wf = true) : 0 ≤ x ∧ x < 4294967296 := by
 simp [Lit.wf] at h;have h1 : IntKind.u32.min = 0 := by decide
 have h2 : IntKind.u32.max = 4294967295 := by decide
 omega
def Opn {H : Type} (enc : TypeId × Value → H) (P : Program) (W : World) (t : TypeId) {α : Type} (f : α → List D) (Q : α → Nat → Prop) : Prop :=
 ∀ (fuel : Nat) (cs : List Value) (d : DataW H) (ps : List MemPlace),cs.length = P.cellsOf t → DataW.trod enc P W 0 (fun _ => true) true fuel t cs = some (d,ps) →
  ∃ x,AllV W (sW W) (D.pvs (f x)) cs ∧ (∀ c ∈ cs,c.oneCell' = true) ∧ ∀ n,Rows.uptoBulk d ≤ n → Q x n
section
variable {H : Type} {enc : TypeId × Value → H} {P : Program} {W : World}
theorem pL {c : Value} (h : c.oneCell' = true) : ∀ x ∈ [c],x.oneCell' = true := fun x hx => by rw [By] at hx;rw [hx];exact h
theorem Opn.int {t : TypeId} (ht : P.underlying t = some (.int .i64)) : Opn enc P W t iD (fun x _ => I64 x) := by
 intro fuel cs d ps _ h;obtain ⟨k,rfl,_,wf⟩ := DataW.trod_int ht h;exact ⟨k,⟨rfl,trivial⟩,pL rfl,fun _ _ => i64_wf wf⟩
theorem Opn.u32 {t : TypeId} (ht : P.underlying t = some (.int .u32)) : Opn enc P W t uD (fun x _ => x < 4294967296) := by
 intro fuel cs d ps _ h;obtain ⟨k,rfl,_,wf⟩ := DataW.trod_int ht h;have h1 := u32_wf wf;refine ⟨k.toNat,⟨?_,trivial⟩,pL rfl,fun _ _ => by omega⟩;show Value.int .u32 k = .int .u32 (k.toNat : Nat);rw [Int.toNat_of_nonneg h1.1]
theorem Opn.bool {t : TypeId} (ht : P.underlying t = some .bool) : Opn enc P W t (fun b : Bool => [.v (.bool b)]) (fun _ _ => True) := by
 intro fuel cs d ps _ h;obtain ⟨k,rfl,_⟩ := DataW.trod_bool ht h;exact ⟨k,⟨rfl,trivial⟩,pL rfl,fun _ _ => trivial⟩
theorem Opn.str {t : TypeId} (ht : P.underlying t = some .string) : Opn enc P W t sD (fun s n => s.size ≤ n) := by
 intro fuel cs d ps _ h;obtain ⟨k,rfl,hx,_⟩ := DataW.trod_string ht h;refine ⟨k,⟨rfl,trivial⟩,pL rfl,fun n hn => ?_⟩;simp only [Prod.mk.injEq] at hx;rw [hx.1] at hn;simp only [Rows.uptoBulk] at hn;have e : k.data.toList.length = k.size := by rw [De];rfl
 omega
theorem Opn.sl {α : Type} {f : α → List D} {Q : α → Nat → Prop} {t e : TypeId} {sz : Nat} (e0 : α) (ht : P.underlying t = some (.slice e)) (hc : P.cellsOf e = sz) (hz : 0 < sz) (he : Opn enc P W e f Q) :
  Opn enc P W t (fun l => [.sl false sz l f e0]) (fun l n => l.length ≤ n ∧ ∀ x ∈ l,Q x n) := by
 intro fuel cs d ps _ h;rcases open_slice ht h with ⟨rfl,hx⟩ | ⟨a,len,cap,m,n,D',Pl,rfl,_,hl,hm,hmm,hx,hel⟩
 ·exact ⟨[],⟨PV.sl_nil,trivial⟩,pL rfl,fun _ _ => ⟨Ap _,fun x hx => by cases hx⟩⟩
 ·simp only [if_true] at hmm;subst hmm;have hq : ∀ i,i < len → ∃ x : α,∃ cs',W.cells? 0 (a.add (i * sz)) sz = some cs' ∧ AllV W (sW W) (D.pvs (f x)) cs' ∧ (∀ c ∈ cs',c.oneCell' = true) ∧ ∀ n,Rows.uptoBulk (D' i) ≤ n → Q x n := fun i hi => by
   obtain ⟨cs',h1,h2⟩ := hel i (by omega);rw [hc] at h1;obtain ⟨_,hlen,_⟩ := World.cells?_some h1;obtain ⟨x,hx1,hx2,hx3⟩ := he n cs' (D' i) (Pl i) (by omega) h2;exact ⟨x,cs',h1,hx1,hx2,hx3⟩
  obtain ⟨g,hg⟩ : ∃ g : Nat → α,∀ i,i < len → ∃ cs',W.cells? 0 (a.add (i * sz)) sz = some cs' ∧ AllV W (sW W) (D.pvs (f (g i))) cs' ∧ (∀ c ∈ cs',c.oneCell' = true) ∧ ∀ n,Rows.uptoBulk (D' i) ≤ n → Q (g i) n :=
   ⟨fun i => if h : i < len then Classical.choose (hq i h) else e0,fun i hi => by simp only [dif_pos hi];exact Classical.choose_spec (hq i hi)⟩
  have hrl : (((List.range len).map g).map fun a => D.pvs (f a)).length = len := by simp
  refine ⟨(List.range len).map g,⟨⟨some a,m,?_,?_,?_,?_,?_⟩,trivial⟩,pL rfl,fun n hn => ?_⟩
  ·show Value.slice (some a) len m = Value.slice (some a) (((List.range len).map g).map fun a => D.pvs (f a)).length m;rw [hrl]
  ·show (((List.range len).map g).map fun a => D.pvs (f a)).length ≤ m;rw [hrl];exact hl
  ·have : maxLen = 9223372036854775807 := by decide
   omega
  ·intro row hrow;have hrow : row ∈ ((List.range len).map g).map fun a => D.pvs (f a) := hrow;rw [Cb] at hrow;obtain ⟨i,hi,rfl⟩ := Bv.1 hrow;obtain ⟨cs',h1,h2,-⟩ := hg i (Ch.1 hi);have h3 := h2.length;obtain ⟨_,h4,_⟩ := World.cells?_some h1;show (D.pvs (f (g i))).length = sz;omega
  ·intro i row hrow;have hrow : (((List.range len).map g).map fun a => D.pvs (f a))[i]? = some row := hrow;rw [Cb,Bm] at hrow;obtain ⟨j,hj,rfl⟩ := Option.map_eq_some_iff.1 hrow;have hi : i < len := by have := (Aj.1 hj).1;simpa using this
   rw [List.getElem?_range hi] at hj
   cases hj;obtain ⟨cs',h1,h2,h3,-⟩ := hg i hi;obtain ⟨_,h4,h5⟩ := World.cells?_some h1;obtain ⟨b,off,spot⟩ := a
   cases spot with
   | some sp =>
    obtain ⟨cs0,k1,-⟩ := hg 0 (by omega);obtain ⟨_,k4,k5⟩ := World.cells?_some k1;have h6 := k5 0 hz;rw [Ac (by omega)] at h6;have := World.cell?_spot h6;simp [Addr.add] at this
   | none =>
    refine ⟨b,off,rfl,fun j d hd => ?_⟩;obtain ⟨v,hv,hp⟩ := h2.get hd;have hj : j < cs'.length := (Aj.1 hv).1;have h6 := h5 j (by omega);rw [hv] at h6;have h7 : W.cell? ⟨b,off + i * sz + j,none⟩ = some v := by rw [add_plain,add_plain] at h6;exact h6
    exact ⟨v,h7,(World.block_lt_of_cell? _ _ h7 : b < W.heap.size),hp,h3 v (Bb hv)⟩
  ·simp only [Prod.mk.injEq] at hx;rw [hx.1] at hn;simp only [Rows.uptoBulk] at hn;have h1 := bulk_length ((List.range len).map D');simp only [Ao,List.length_range] at h1;refine ⟨by simp;omega,fun x hx => ?_⟩;obtain ⟨i,hi,rfl⟩ := Bv.1 hx;obtain ⟨cs',-,-,-,h4⟩ := hg i (Ch.1 hi);exact h4 n (by have := gB0 (d := D' i) (l := (List.range len).map D') (Bv.2 ⟨i,hi,rfl⟩);omega)
end
theorem list5 {α : Type} {l : List α} (h : l.length = 5) : ∃ c0 c1 c2 c3 c4,l = [c0,c1,c2,c3,c4] := by
 match l,h with
 | [c0,c1,c2,c3,c4],_ => exact ⟨c0,c1,c2,c3,c4,rfl⟩
theorem list7 {α : Type} {l : List α} (h : l.length = 7) : ∃ c0 c1 c2 c3 c4 c5 c6,l = [c0,c1,c2,c3,c4,c5,c6] := by
 match l,h with
 | [c0,c1,c2,c3,c4,c5,c6],_ => exact ⟨c0,c1,c2,c3,c4,c5,c6,rfl⟩
theorem tF0 {α : Type} {l : List α} (h : l.length = 10) : ∃ c0 c1 c2 c3 c4 c5 c6 c7 c8 c9,l = [c0,c1,c2,c3,c4,c5,c6,c7,c8,c9] := by
 match l,h with
 | [c0,c1,c2,c3,c4,c5,c6,c7,c8,c9],_ => exact ⟨c0,c1,c2,c3,c4,c5,c6,c7,c8,c9,rfl⟩
theorem jO {W : World} {s : Sb} {d : D} {c : Value} (h : AllV W s (D.pvs [d]) [c]) : d.pv.p W s c := h.1
section
variable {H : Type} {enc : TypeId × Value → H} {W : World}
def intD (p : Bool × List Nat) : List D := [.v (.bool p.1),usD p.2]
set_option maxRecDepth 100000 in
theorem Opn.bigI : Opn enc Tryz.prog W 27 intD (fun p n => p.2.length ≤ n ∧ ∀ x ∈ p.2,x < 4294967296) := by
 intro fuel cs d ps hl h;have e4 : Tryz.prog.cellsOf 4 = 1 := by kernel_rfl
 have e22 : Tryz.prog.cellsOf 25 = 1 := by kernel_rfl
 have eI : Tryz.prog.cellsOf 27 = 2 := by kernel_rfl
 rw [eI] at hl
 match cs,hl with
 | [c0,c1],_ =>
  obtain ⟨xs,n1,_,hx,_,hlen,hg⟩ := DataW.trod_struct Tryz.underlying27 h
  match xs,hlen with
  | [y0,y1],_ =>
   have g0 : DataW.trod enc Tryz.prog W 0 (fun _ => true) true n1 4 (([c0,c1].drop 0).take (Tryz.prog.cellsOf 4)) = some y0 := hg 0 _ rfl;rw [e4] at g0
   replace g0 : DataW.trod enc Tryz.prog W 0 (fun _ => true) true n1 4 [c0] = some y0 := g0
   have g1 : DataW.trod enc Tryz.prog W 0 (fun _ => true) true n1 25 (([c0,c1].drop 1).take (Tryz.prog.cellsOf 25)) = some y1 := hg 1 _ rfl;rw [e22] at g1
   replace g1 : DataW.trod enc Tryz.prog W 0 (fun _ => true) true n1 25 [c1] = some y1 := g1
   obtain ⟨x0,a0,o0,q0⟩ := Opn.bool Tryz.underlying4 _ _ y0.1 y0.2 (by rw [e4];rfl) g0;obtain ⟨x1,a1,o1,q1⟩ := Opn.sl 0 Tryz.underlying25 (sz := 1) (by kernel_rfl) (by decide) (Opn.u32 Tryz.underlying110) _ _ y1.1 y1.2 (by rw [e22];rfl) g1;simp only [Prod.mk.injEq] at hx;refine ⟨(x0,x1),⟨jO a0,jO a1,trivial⟩,fun c hc => ?_,fun n hn => ?_⟩
   ·simp only [Be,Du,or_false] at hc;rcases hc with rfl | rfl
    ·exact o0 _ (by simp)
    ·exact o1 _ (by simp)
   ·rw [hx.1] at hn;exact q1 n (qL (i := 1) (y := y1) rfl hn)
set_option maxRecDepth 100000 in
theorem Opn.val : Opn enc Tryz.prog W 29 vlD (fun v n => n ≤ 1048576 → VlIn v) := by
 intro fuel cs d ps hl h;have e3 : Tryz.prog.cellsOf 3 = 1 := by kernel_rfl
 have e9 : Tryz.prog.cellsOf 9 = 1 := by kernel_rfl
 have e24 : Tryz.prog.cellsOf 27 = 2 := by kernel_rfl
 have eV : Tryz.prog.cellsOf 29 = 7 := by kernel_rfl
 rw [eV] at hl;obtain ⟨c0,c1,c2,c3,c4,c5,c6,rfl⟩ := list7 hl;obtain ⟨xs,n1,_,hx,_,hlen,hg⟩ := DataW.trod_struct Tryz.underlying29 h;obtain ⟨y0,y1,y2,y3,y4,rfl⟩ := list5 hlen;have g0 : DataW.trod enc Tryz.prog W 0 (fun _ => true) true n1 3 (([c0,c1,c2,c3,c4,c5,c6].drop 0).take (Tryz.prog.cellsOf 3)) = some y0 := hg 0 _ rfl;rw [e3] at g0
 replace g0 : DataW.trod enc Tryz.prog W 0 (fun _ => true) true n1 3 [c0] = some y0 := g0
 have g1 : DataW.trod enc Tryz.prog W 0 (fun _ => true) true n1 27 (([c0,c1,c2,c3,c4,c5,c6].drop 1).take (Tryz.prog.cellsOf 27)) = some y1 := hg 1 _ rfl;rw [e24] at g1
 replace g1 : DataW.trod enc Tryz.prog W 0 (fun _ => true) true n1 27 [c1,c2] = some y1 := g1
 have g2 : DataW.trod enc Tryz.prog W 0 (fun _ => true) true n1 27 (([c0,c1,c2,c3,c4,c5,c6].drop 3).take (Tryz.prog.cellsOf 27)) = some y2 := hg 2 _ rfl;rw [e24] at g2
 replace g2 : DataW.trod enc Tryz.prog W 0 (fun _ => true) true n1 27 [c3,c4] = some y2 := g2
 have g3 : DataW.trod enc Tryz.prog W 0 (fun _ => true) true n1 9 (([c0,c1,c2,c3,c4,c5,c6].drop 5).take (Tryz.prog.cellsOf 9)) = some y3 := hg 3 _ rfl;rw [e9] at g3
 replace g3 : DataW.trod enc Tryz.prog W 0 (fun _ => true) true n1 9 [c5] = some y3 := g3
 have g4 : DataW.trod enc Tryz.prog W 0 (fun _ => true) true n1 3 (([c0,c1,c2,c3,c4,c5,c6].drop 6).take (Tryz.prog.cellsOf 3)) = some y4 := hg 4 _ rfl;rw [e3] at g4
 replace g4 : DataW.trod enc Tryz.prog W 0 (fun _ => true) true n1 3 [c6] = some y4 := g4
 obtain ⟨x0,a0,o0,q0⟩ := Opn.int Tryz.underlying3 _ _ y0.1 y0.2 (by rw [e3];rfl) g0;obtain ⟨x1,a1,o1,q1⟩ := Opn.bigI _ _ y1.1 y1.2 (by rw [e24];rfl) g1;obtain ⟨x2,a2,o2,q2⟩ := Opn.bigI _ _ y2.1 y2.2 (by rw [e24];rfl) g2;obtain ⟨x3,a3,o3,q3⟩ := Opn.str Tryz.underlying9 _ _ y3.1 y3.2 (by rw [e9];rfl) g3;obtain ⟨x4,a4,o4,q4⟩ := Opn.int Tryz.underlying3 _ _ y4.1 y4.2 (by rw [e3];rfl) g4;simp only [Prod.mk.injEq] at hx;refine ⟨⟨x0,x1.1,x1.2,x2.1,x2.2,x3,x4⟩,⟨jO a0,a1.1,a1.2.1,a2.1,a2.2.1,jO a3,jO a4,trivial⟩,fun c hc => ?_,fun n hn hn2 => ?_⟩
 ·simp only [Be,Du,or_false] at hc;rcases hc with rfl | rfl | rfl | rfl | rfl | rfl | rfl
  ·exact o0 _ (by simp)
  ·exact o1 _ (by simp)
  ·exact o1 _ (by simp)
  ·exact o2 _ (by simp)
  ·exact o2 _ (by simp)
  ·exact o3 _ (by simp)
  ·exact o4 _ (by simp)
 ·rw [hx.1] at hn;have b0 := q0 n (qL (i := 0) (y := y0) rfl hn);have b1 := q1 n (qL (i := 1) (y := y1) rfl hn);have b2 := q2 n (qL (i := 2) (y := y2) rfl hn);have b3 := q3 n (qL (i := 3) (y := y3) rfl hn);have b4 := q4 n (qL (i := 4) (y := y4) rfl hn);exact ⟨b0.1,b0.2,b4.1,b4.2,b1.2,b2.2,by show x1.2.length ≤ _;omega,by show x2.2.length ≤ _;omega,by show x3.size ≤ _;omega⟩
set_option maxRecDepth 100000 in
theorem Opn.obj : Opn enc Tryz.prog W 36 obD (fun o n => n ≤ 1048576 → ObIn o) := by
 intro fuel cs d ps hl h;have e3 : Tryz.prog.cellsOf 3 = 1 := by kernel_rfl
 have e9 : Tryz.prog.cellsOf 9 = 1 := by kernel_rfl
 have eI : Tryz.prog.cellsOf 32 = 1 := by kernel_rfl
 have eS : Tryz.prog.cellsOf 33 = 1 := by kernel_rfl
 have eV : Tryz.prog.cellsOf 34 = 1 := by kernel_rfl
 have eO : Tryz.prog.cellsOf 36 = 10 := by kernel_rfl
 rw [eO] at hl;obtain ⟨c0,c1,c2,c3,c4,c5,c6,c7,c8,c9,rfl⟩ := tF0 hl;obtain ⟨xs,n1,_,hx,_,hlen,hg⟩ := DataW.trod_struct Tryz.underlying36 h;obtain ⟨y0,y1,y2,y3,y4,y5,y6,y7,y8,y9,rfl⟩ := tF0 hlen;have g0 : DataW.trod enc Tryz.prog W 0 (fun _ => true) true n1 3 (([c0,c1,c2,c3,c4,c5,c6,c7,c8,c9].drop 0).take (Tryz.prog.cellsOf 3)) = some y0 := hg 0 _ rfl;rw [e3] at g0
 replace g0 : DataW.trod enc Tryz.prog W 0 (fun _ => true) true n1 3 [c0] = some y0 := g0
 have g1 : DataW.trod enc Tryz.prog W 0 (fun _ => true) true n1 9 (([c0,c1,c2,c3,c4,c5,c6,c7,c8,c9].drop 1).take (Tryz.prog.cellsOf 9)) = some y1 := hg 1 _ rfl;rw [e9] at g1
 replace g1 : DataW.trod enc Tryz.prog W 0 (fun _ => true) true n1 9 [c1] = some y1 := g1
 have g2 : DataW.trod enc Tryz.prog W 0 (fun _ => true) true n1 3 (([c0,c1,c2,c3,c4,c5,c6,c7,c8,c9].drop 2).take (Tryz.prog.cellsOf 3)) = some y2 := hg 2 _ rfl;rw [e3] at g2
 replace g2 : DataW.trod enc Tryz.prog W 0 (fun _ => true) true n1 3 [c2] = some y2 := g2
 have g3 : DataW.trod enc Tryz.prog W 0 (fun _ => true) true n1 32 (([c0,c1,c2,c3,c4,c5,c6,c7,c8,c9].drop 3).take (Tryz.prog.cellsOf 32)) = some y3 := hg 3 _ rfl;rw [eI] at g3
 replace g3 : DataW.trod enc Tryz.prog W 0 (fun _ => true) true n1 32 [c3] = some y3 := g3
 have g4 : DataW.trod enc Tryz.prog W 0 (fun _ => true) true n1 32 (([c0,c1,c2,c3,c4,c5,c6,c7,c8,c9].drop 4).take (Tryz.prog.cellsOf 32)) = some y4 := hg 4 _ rfl;rw [eI] at g4
 replace g4 : DataW.trod enc Tryz.prog W 0 (fun _ => true) true n1 32 [c4] = some y4 := g4
 have g5 : DataW.trod enc Tryz.prog W 0 (fun _ => true) true n1 33 (([c0,c1,c2,c3,c4,c5,c6,c7,c8,c9].drop 5).take (Tryz.prog.cellsOf 33)) = some y5 := hg 5 _ rfl;rw [eS] at g5
 replace g5 : DataW.trod enc Tryz.prog W 0 (fun _ => true) true n1 33 [c5] = some y5 := g5
 have g6 : DataW.trod enc Tryz.prog W 0 (fun _ => true) true n1 34 (([c0,c1,c2,c3,c4,c5,c6,c7,c8,c9].drop 6).take (Tryz.prog.cellsOf 34)) = some y6 := hg 6 _ rfl;rw [eV] at g6
 replace g6 : DataW.trod enc Tryz.prog W 0 (fun _ => true) true n1 34 [c6] = some y6 := g6
 have g7 : DataW.trod enc Tryz.prog W 0 (fun _ => true) true n1 34 (([c0,c1,c2,c3,c4,c5,c6,c7,c8,c9].drop 7).take (Tryz.prog.cellsOf 34)) = some y7 := hg 7 _ rfl;rw [eV] at g7
 replace g7 : DataW.trod enc Tryz.prog W 0 (fun _ => true) true n1 34 [c7] = some y7 := g7
 have g8 : DataW.trod enc Tryz.prog W 0 (fun _ => true) true n1 3 (([c0,c1,c2,c3,c4,c5,c6,c7,c8,c9].drop 8).take (Tryz.prog.cellsOf 3)) = some y8 := hg 8 _ rfl;rw [e3] at g8
 replace g8 : DataW.trod enc Tryz.prog W 0 (fun _ => true) true n1 3 [c8] = some y8 := g8
 have g9 : DataW.trod enc Tryz.prog W 0 (fun _ => true) true n1 3 (([c0,c1,c2,c3,c4,c5,c6,c7,c8,c9].drop 9).take (Tryz.prog.cellsOf 3)) = some y9 := hg 9 _ rfl;rw [e3] at g9
 replace g9 : DataW.trod enc Tryz.prog W 0 (fun _ => true) true n1 3 [c9] = some y9 := g9
 obtain ⟨x0,a0,o0,q0⟩ := Opn.int Tryz.underlying3 _ _ y0.1 y0.2 (by rw [e3];rfl) g0;obtain ⟨x1,a1,o1,q1⟩ := Opn.str Tryz.underlying9 _ _ y1.1 y1.2 (by rw [e9];rfl) g1;obtain ⟨x2,a2,o2,q2⟩ := Opn.int Tryz.underlying3 _ _ y2.1 y2.2 (by rw [e3];rfl) g2;obtain ⟨x3,a3,o3,q3⟩ := Opn.sl 0 Tryz.underlying32 (sz := 1) (by kernel_rfl) (by decide) (Opn.int Tryz.underlying3) _ _ y3.1 y3.2 (by rw [eI];rfl) g3;obtain ⟨x4,a4,o4,q4⟩ := Opn.sl 0 Tryz.underlying32 (sz := 1) (by kernel_rfl) (by decide) (Opn.int Tryz.underlying3) _ _ y4.1 y4.2 (by rw [eI];rfl) g4;obtain ⟨x5,a5,o5,q5⟩ := Opn.sl ByteArray.empty Tryz.underlying33 (sz := 1) (by kernel_rfl) (by decide) (Opn.str Tryz.underlying9) _ _ y5.1 y5.2 (by rw [eS];rfl) g5;obtain ⟨x6,a6,o6,q6⟩ := Opn.sl vl0 Tryz.underlying34 (sz := 7) (by kernel_rfl) (by decide) Opn.val _ _ y6.1 y6.2 (by rw [eV];rfl) g6;obtain ⟨x7,a7,o7,q7⟩ := Opn.sl vl0 Tryz.underlying34 (sz := 7) (by kernel_rfl) (by decide) Opn.val _ _ y7.1 y7.2 (by rw [eV];rfl) g7;obtain ⟨x8,a8,o8,q8⟩ := Opn.int Tryz.underlying3 _ _ y8.1 y8.2 (by rw [e3];rfl) g8;obtain ⟨x9,a9,o9,q9⟩ := Opn.int Tryz.underlying3 _ _ y9.1 y9.2 (by rw [e3];rfl) g9;simp only [Prod.mk.injEq] at hx;refine ⟨⟨x0,x1,x2,x3,x4,x5,x6,x7,x8,x9⟩,⟨jO a0,jO a1,jO a2,jO a3,jO a4,jO a5,jO a6,jO a7,jO a8,jO a9,trivial⟩,fun c hc => ?_,fun n hn hn2 => ?_⟩
 ·simp only [Be,Du,or_false] at hc;rcases hc with rfl | rfl | rfl | rfl | rfl | rfl | rfl | rfl | rfl | rfl
  ·exact o0 _ (by simp)
  ·exact o1 _ (by simp)
  ·exact o2 _ (by simp)
  ·exact o3 _ (by simp)
  ·exact o4 _ (by simp)
  ·exact o5 _ (by simp)
  ·exact o6 _ (by simp)
  ·exact o7 _ (by simp)
  ·exact o8 _ (by simp)
  ·exact o9 _ (by simp)
 ·rw [hx.1] at hn;have b0 := q0 n (qL (i := 0) (y := y0) rfl hn);have b1 := q1 n (qL (i := 1) (y := y1) rfl hn);have b2 := q2 n (qL (i := 2) (y := y2) rfl hn);have b3 := q3 n (qL (i := 3) (y := y3) rfl hn);have b4 := q4 n (qL (i := 4) (y := y4) rfl hn);have b5 := q5 n (qL (i := 5) (y := y5) rfl hn);have b6 := q6 n (qL (i := 6) (y := y6) rfl hn);have b7 := q7 n (qL (i := 7) (y := y7) rfl hn);have b8 := q8 n (qL (i := 8) (y := y8) rfl hn);have b9 := q9 n (qL (i := 9) (y := y9) rfl hn)
  exact ⟨b0,b2,b8,b9,by show x1.size ≤ _;omega,by show x3.length ≤ _;omega,by show x4.length ≤ _;omega,by show x5.length ≤ _;omega,by show x6.length ≤ _;omega,by show x7.length ≤ _;omega,
   fun s hs => by have := b5.2 s hs;omega,fun v hv => b6.2 v hv hn2,fun v hv => b7.2 v hv hn2⟩
def hpL (h : List Ob) : List D := [.sl false 10 h obD ob0]
set_option maxRecDepth 100000 in
theorem Opn.heap : Opn enc Tryz.prog W 24 hpL (fun h n => n ≤ 1048576 → HpIn h) := by
 intro fuel cs d ps hl h;have eH : Tryz.prog.cellsOf 24 = 1 := by kernel_rfl
 have eO : Tryz.prog.cellsOf 22 = 1 := by kernel_rfl
 rw [eH] at hl
 match cs,hl with
 | [c0],_ =>
  obtain ⟨xs,n1,_,hx,_,hlen,hg⟩ := DataW.trod_struct Tryz.underlying24 h
  match xs,hlen with
  | [y0],_ =>
   have g0 : DataW.trod enc Tryz.prog W 0 (fun _ => true) true n1 22 (([c0].drop 0).take (Tryz.prog.cellsOf 22)) = some y0 := hg 0 _ rfl;rw [eO] at g0
   replace g0 : DataW.trod enc Tryz.prog W 0 (fun _ => true) true n1 22 [c0] = some y0 := g0
   obtain ⟨x0,a0,o0,q0⟩ := Opn.sl ob0 Tryz.underlying22 (sz := 10) (by kernel_rfl) (by decide) Opn.obj _ _ y0.1 y0.2 (by rw [eO];rfl) g0;simp only [Prod.mk.injEq] at hx;refine ⟨x0,a0,o0,fun n hn hn2 => ?_⟩;rw [hx.1] at hn;have b0 := q0 n (qL (i := 0) (y := y0) rfl hn);exact ⟨fun o ho => b0.2 o ho hn2,by omega⟩
theorem Opn.agg {P : Program} {α : Type} {f : α → List D} {Q : α → Nat → Prop} {t : TypeId} {fs : Array Field} {base : Nat} (ho : Opn enc P W t f Q) (ht : P.underlying t = some (.struct fs)) {v : Value} {d : DataW H} {ps : List MemPlace}
  (hv : Value.okWide P W .any base t v) (h : DataW.Trod enc P W 0 (fun _ => true) true t v d ps) :
  ∃ x,(D.agg (f x)).pv.p W (sW W) v ∧ ∀ n,Rows.uptoBulk d ≤ n → Q x n := by
 obtain ⟨cs,rfl,hsz⟩ := okWide_struct ht hv;obtain ⟨l⟩ := cs;obtain ⟨fuel,hf⟩ := h;obtain ⟨x,h1,-,h3⟩ := ho fuel l d ps hsz hf;exact ⟨x,⟨l,rfl,h1⟩,h3⟩
end
theorem fits_of_wf {x : Int} (h : (Lit.int .i64 x).wf = true) : Fits x := by
 simp [Lit.wf] at h;have h1 : IntKind.i64.min = -9223372036854775808 := by decide
 have h2 : IntKind.i64.max = 9223372036854775807 := by decide
 unfold Fits;omega
theorem Int_open {H : Type} {enc : TypeId × Value → H} {P : Program} {W : World} {base : Nat} {t : TypeId} {v : Value} {d : DataW H} {ps : List MemPlace}
  (ht : P.underlying t = some (.int .i64)) (hv : Value.okWide P W .any base t v) (h : DataW.Trod enc P W 0 (fun _ => true) true t v d ps) :
  ∃ x,v = .int .i64 x ∧ Fits x := by
 obtain ⟨x,rfl,_,_,hw⟩ := open_int ht hv h;exact ⟨x,rfl,fits_of_wf hw⟩
open Go.ChangeShapes Go.WideShapes Go.ChangeAt Go.RowKit
theorem mQ {H : Type} {enc : TypeId × Value → H} {P : Program} (hl : laidOutB P = true) {W W' : World} (hb : Below W.heap.size W W') :
  ∀ (ts : List TypeId) (vs : List Value) (ds : List (DataW H)) (ps : List MemPlace),(∀ t ∈ ts,P.readableRec t = true ∧ t < P.types.size) →
   DataW.TrodAll enc P W 0 (fun _ => true) true ts vs ds ps → DataW.TrodAll enc P W' 0 (fun b => decide (b < W.heap.size)) true ts vs ds ps
 | [],[],[],ps,_,h => h
 | t :: ts,v :: vs,d :: ds,ps,hr,h => by
  obtain ⟨p,q,hp,hq,e⟩ := h;have lt : ∀ x ∈ p,x.block < W.heap.size := by obtain ⟨m,hm⟩ := hp;exact DataW.trod_lt m _ _ _ hm
  have ht := hr t (by simp);exact ⟨p,q,Below.trod hl ht.1 ht.2 hp hb lt,mQ hl hb ts vs ds q (fun x hx => hr x (by simp [hx])) hq,e⟩
 | [],[],_ :: _,_,_,h => by simp [DataW.TrodAll] at h
 | [],_ :: _,_,_,_,h => by simp [DataW.TrodAll] at h
 | _ :: _,[],_,_,_,h => by simp [DataW.TrodAll] at h
 | _ :: _,_ :: _,[],_,_,h => by simp [DataW.TrodAll] at h
open Go.ChangeShapes Go.WideShapes Go.ChangeAt Go.RowKit Go.Shelf
theorem Law_own : ownKnob Tryz.prog.godebug = none := by kernel_rfl
theorem accept_same : (Rows.laid_unicode_utf8_acceptRanges : DataW Unit) = Lib.acceptData := by kernel_rfl
theorem first_same : (Rows.laid_unicode_utf8_first : DataW Unit) = Lib.firstData := by kernel_rfl
theorem space_same : (Rows.laid_strings_asciiSpace : DataW Unit) = Lib.tabData .u8 Lib.asciiSpaceTab := by kernel_rfl
theorem pow_same : (Rows.laid_internal_strconv_uint64pow10 : DataW Unit) = Lib.tabData .u64 Lib.pow10Tab := by kernel_rfl
theorem mQ0 {W : World} (hL : laidMetH Tryz.prog Rows.inlineAttrMatchesSpecUptoRow.laid W) : Lib.TabIs Tryz.prog W "internal/strconv.uint64pow10" .u64 Lib.pow10Tab := by
 have h5 : Lib.VarReads Tryz.prog W "internal/strconv.uint64pow10" Rows.laid_internal_strconv_uint64pow10 := Lib.laidMet.reads hL (.tail _ (.tail _ (.head _)));rw [pow_same] at h5;obtain ⟨g,t,cs,fuel,p,hg,hty,hvar,hd⟩ := h5;obtain rfl := Option.some.inj ((show Tryz.prog.globalNamed "internal/strconv.uint64pow10" = some 5 by kernel_rfl).symm.trans hg);obtain rfl := Option.some.inj ((show (Tryz.prog.globals[5]?).map (·.type) = some 234 by kernel_rfl).symm.trans hty);have := Lib.cells_of_tab Tryz.underlying234 Tryz.underlying197 (by kernel_rfl) (by kernel_rfl) hd;unfold Lib.TabIs;rw [hvar,← this]
theorem Law_z {W : World} (hL : laidMetH Tryz.prog Rows.inlineAttrMatchesSpecUptoRow.laid W) (o : Nat) (ho : 20 ≤ o) : W.cell? ⟨5,o,none⟩ = none ∧ sW W 5 o := by
 have h := mQ0 hL;have hg : Tryz.prog.globalNamed "internal/strconv.uint64pow10" = some 5 := by kernel_rfl
 refine ⟨?_,?_⟩
 ·rw [World.var?_cell hg h o,Cv];exact Dd (by rw [Ao,Lib.pow10Tab_length];exact ho)
 ·exact World.block_lt_of_cell? _ _ (h.cell hg 0 (by rw [Lib.pow10Tab_length];decide))
theorem tab_p16 {W : World} (hL : laidMetH Tryz.prog Rows.inlineAttrMatchesSpecUptoRow.laid W) : Lib.TabSlice 6 .u16 Lib.goPrintTabs.p16 W :=
 Lib.tabSlice_of_reads (name := "strconv.isPrint16") (t := 237) (e := 202) (by kernel_rfl) (by kernel_rfl) Tryz.underlying237 Tryz.underlying202 (by kernel_rfl) (by decide +kernel) (by
  have h : Lib.VarReads Tryz.prog W "strconv.isPrint16" Rows.laid_strconv_isPrint16 := Lib.laidMet.reads hL (.tail _ (.tail _ (.tail _ (.tail _ (.tail _ (.tail _ (.tail _ (.tail _ (.tail _ (.head _))))))))))
  rwa [show (Rows.laid_strconv_isPrint16 : DataW Unit) = Lib.sliceData .u16 Lib.goPrintTabs.p16 from Go.Pinned.isPrint16_eq] at h)
theorem tab_n16 {W : World} (hL : laidMetH Tryz.prog Rows.inlineAttrMatchesSpecUptoRow.laid W) : Lib.TabSlice 7 .u16 Lib.goPrintTabs.n16 W :=
 Lib.tabSlice_of_reads (name := "strconv.isNotPrint16") (t := 237) (e := 202) (by kernel_rfl) (by kernel_rfl) Tryz.underlying237 Tryz.underlying202 (by kernel_rfl) (by decide +kernel) (by
  have h : Lib.VarReads Tryz.prog W "strconv.isNotPrint16" Rows.laid_strconv_isNotPrint16 := Lib.laidMet.reads hL (.tail _ (.tail _ (.tail _ (.tail _ (.tail _ (.tail _ (.tail _ (.head _))))))))
  rwa [show (Rows.laid_strconv_isNotPrint16 : DataW Unit) = Lib.sliceData .u16 Lib.goPrintTabs.n16 from Go.Pinned.isNotPrint16_eq] at h)
theorem tab_p32 {W : World} (hL : laidMetH Tryz.prog Rows.inlineAttrMatchesSpecUptoRow.laid W) : Lib.TabSlice 8 .u32 Lib.goPrintTabs.p32 W :=
 Lib.tabSlice_of_reads (name := "strconv.isPrint32") (t := 25) (e := 110) (by kernel_rfl) (by kernel_rfl) Tryz.underlying25 Tryz.underlying110 (by kernel_rfl) (by decide +kernel) (by
  have h : Lib.VarReads Tryz.prog W "strconv.isPrint32" Rows.laid_strconv_isPrint32 := Lib.laidMet.reads hL (.tail _ (.tail _ (.tail _ (.tail _ (.tail _ (.tail _ (.tail _ (.tail _ (.tail _ (.tail _ (.head _)))))))))))
  rwa [show (Rows.laid_strconv_isPrint32 : DataW Unit) = Lib.sliceData .u32 Lib.goPrintTabs.p32 from Go.Pinned.isPrint32_eq] at h)
theorem tab_n32 {W : World} (hL : laidMetH Tryz.prog Rows.inlineAttrMatchesSpecUptoRow.laid W) : Lib.TabSlice 9 .u16 Lib.goPrintTabs.n32 W :=
 Lib.tabSlice_of_reads (name := "strconv.isNotPrint32") (t := 237) (e := 202) (by kernel_rfl) (by kernel_rfl) Tryz.underlying237 Tryz.underlying202 (by kernel_rfl) (by decide +kernel) (by
  have h : Lib.VarReads Tryz.prog W "strconv.isNotPrint32" Rows.laid_strconv_isNotPrint32 := Lib.laidMet.reads hL (.tail _ (.tail _ (.tail _ (.tail _ (.tail _ (.tail _ (.tail _ (.tail _ (.head _)))))))))
  rwa [show (Rows.laid_strconv_isNotPrint32 : DataW Unit) = Lib.sliceData .u16 Lib.goPrintTabs.n32 from Go.Pinned.isNotPrint32_eq] at h)
def xF0 : List (DataW Unit) → List Value
 | [] => []
 | .lit (.int k n) :: l => .int k n :: xF0 l
 | _ :: l => undef :: xF0 l
def bJ0 : DataW Unit → Array Value
 | .agg l => (xF0 l).toArray
 | .slice l _ => (xF0 l).toArray
 | _ => #[]
theorem Law_glob {W : World} (hL : laidMetH Tryz.prog Rows.inlineAttrMatchesSpecUptoRow.laid W) (hs : W.ShapedOpen Tryz.prog) : Glb W (sW W) := by
 have h3 : Lib.VarReads Tryz.prog W "unicode/utf8.first" Rows.laid_unicode_utf8_first := Lib.laidMet.reads hL (.tail _ (.tail _ (.tail _ (.tail _ (.tail _ (.tail _ (.tail _ (.tail _ (.tail _ (.tail _ (.tail _ (.head _))))))))))));have h4 : Lib.VarReads Tryz.prog W "unicode/utf8.acceptRanges" Rows.laid_unicode_utf8_acceptRanges := Lib.laidMet.reads hL (.tail _ (.tail _ (.tail _ (.head _))));have h5 : Lib.VarReads Tryz.prog W "strings.asciiSpace" Rows.laid_strings_asciiSpace := Lib.laidMet.reads hL (.tail _ (.tail _ (.tail _ (.tail _ (.tail _ (.head _))))));rw [first_same] at h3;rw [accept_same] at h4;rw [space_same] at h5;have hT : Lib.Utf8Tabs 1 2 W := utf8Tabs_of_readsT (U8Types.of196 Tryz.laysValid) ⟨by kernel_rfl,by kernel_rfl,by kernel_rfl,by kernel_rfl,by kernel_rfl,by kernel_rfl,by kernel_rfl⟩ h3 h4;have hS : Lib.TabIs Tryz.prog W "strings.asciiSpace" .u8 Lib.asciiSpaceTab := by
  obtain ⟨g,t,cs,fuel,p,hg,hty,hvar,hd⟩ := h5;obtain rfl := Option.some.inj ((show Tryz.prog.globalNamed "strings.asciiSpace" = some 0 by kernel_rfl).symm.trans hg);obtain rfl := Option.some.inj ((show (Tryz.prog.globals[0]?).map (·.type) = some 150 by kernel_rfl).symm.trans hty);have := Lib.cells_of_tab Tryz.underlying150 Tryz.underlying5 (by kernel_rfl) (by kernel_rfl) hd;unfold Lib.TabIs;rw [hvar,← this]
 have hM := Go.Proofs.cell_of_shapedOpen_int (g := 4) (t := 3) (zero := #[.int .i64 0]) hs (Af (by kernel_rfl)) (by kernel_rfl) rfl (by kernel_rfl) (by kernel_rfl) Tryz.underlying3;refine ⟨fun b o => W.cell? ⟨b,o,none⟩,⟨hM,fun c hc => hT.1 c hc,fun i hi => hT.2 i hi,fun c hc => ?_,fun i hi => (mQ0 hL).cell (by kernel_rfl) i (by rw [Lib.pow10Tab_length];exact hi),tab_p16 hL,tab_n16 hL,tab_p32 hL,tab_n32 hL⟩,fun b o v hv => ⟨hv,World.block_lt_of_cell? _ _ hv⟩,fun b o h => by cases h with | pow10 o ho => exact Law_z hL _ ho⟩;show W.cell? ⟨0,c,none⟩ = _;rw [hS.cell (by kernel_rfl) c (by rw [Lib.asciiSpaceTab_length];exact hc),Lib.asciiSpaceTab_at c hc]
noncomputable def Law_world (os : Os) : World :=
 let N := (World.settled Tryz.prog os).heap.size
 let w0 := World.holding Tryz.prog os ⟨#[.cells (Lib.whiteT.map fun (z : Nat) => Value.int .u16 (z : Int)).toArray 204,.cells #[.slice (some ⟨N,0,none⟩) 7 7,.slice none 0 0,.int .i64 2] 201,.cells (bJ0 Rows.laid_strconv_isGraphic) 202,.cells (Lib.intCellsOf .u16 Lib.goPrintTabs.n16) 202,.cells (Lib.intCellsOf .u16 Lib.goPrintTabs.n32) 202,.cells (Lib.intCellsOf .u16 Lib.goPrintTabs.p16) 202,.cells (Lib.intCellsOf .u32 Lib.goPrintTabs.p32) 110],#[],[]⟩
 let put (h : Array Obj) (g : Nat) (cs : Array Value) : Array Obj := h.modify g fun
  | .cells _ t frozen => .cells cs t frozen
  | o => o
 let h1 := put w0.heap 0 (Lib.asciiSpaceTab.map fun z => Value.int .u8 z).toArray
 let h2 := put h1 1 (Lib.firstTab.map fun z => Value.int .u8 z).toArray
 let h3 := put h2 2 ((List.range 16).flatMap fun i => [Value.int .u8 (Lib.accLo i),Value.int .u8 (Lib.accHi i)]).toArray
 let h4 := put h3 3 #[.pointer (some ⟨N + 1,0,none⟩)]
 let h5 := put h4 11 (bJ0 Rows.laid_math_bits_deBruijn32tab)
 let h6 := put h5 12 (bJ0 Rows.laid_math_bits_deBruijn64tab)
 let h7 := put h6 5 (bJ0 Rows.laid_internal_strconv_uint64pow10)
 let h8 := put h7 10 #[.slice (some ⟨N + 2,0,none⟩) 16 16]
 let h9 := put h8 7 #[.slice (some ⟨N + 3,0,none⟩) Lib.goPrintTabs.n16.length Lib.goPrintTabs.n16.length]
 let h10 := put h9 9 #[.slice (some ⟨N + 4,0,none⟩) Lib.goPrintTabs.n32.length Lib.goPrintTabs.n32.length]
 let h11 := put h10 6 #[.slice (some ⟨N + 5,0,none⟩) Lib.goPrintTabs.p16.length Lib.goPrintTabs.p16.length]
 let h12 := put h11 8 #[.slice (some ⟨N + 6,0,none⟩) Lib.goPrintTabs.p32.length Lib.goPrintTabs.p32.length]
 { w0 with heap := h12 }
def Law_arg : Array Value := #[.agg #[.slice none 0 0],.int .i64 0,.agg #[.int .i64 0,.bool false,.slice none 0 0,.bool false,.slice none 0 0,.string ⟨#[]⟩,.int .i64 0],.agg #[.int .i64 0,.bool false,.slice none 0 0,.bool false,.slice none 0 0,.string ⟨#[]⟩,.int .i64 0],.string ⟨#[]⟩,.agg #[.int .i64 0,.bool false,.slice none 0 0,.bool false,.slice none 0 0,.string ⟨#[]⟩,.int .i64 0]]
noncomputable abbrev N0 : Nat := (World.settled Tryz.prog default).heap.size
theorem Law_pc0 (os : Os) : LaidIn Tryz.prog ((Law_world os).forCall (fun _ _ => 0) ⟨#[],Law_arg,[]⟩).memory ((Rows.inlineAttrMatchesSpecUptoRow.laid.drop 0).take 7) [11,12,5,2,3,N0,N0 + 1,0,10,N0 + 2] :=
 LaidIn.of_run [11,12,5,2,3,N0,N0 + 1,0,10,N0 + 2] 10 (by kernel_rfl) (by kernel_rfl) (by kernel_rfl) (by kernel_rfl)
set_option maxRecDepth 1000000 in
theorem Law_pc1 (os : Os) : LaidIn Tryz.prog ((Law_world os).forCall (fun _ _ => 0) ⟨#[],Law_arg,[]⟩).memory [("strconv.isNotPrint16",Rows.laid_strconv_isNotPrint16)] [7,N0 + 3] := by
 rw [show (Rows.laid_strconv_isNotPrint16 : DataW Unit) = Lib.sliceData .u16 Lib.goPrintTabs.n16 from Go.Pinned.isNotPrint16_eq];exact Lib.laidIn_slice (t := 237) (e := 202) (te := 202) Lib.goPrintTabs.n16 (N0 + 3) (by kernel_rfl) (by kernel_rfl) (by kernel_rfl) (by kernel_rfl) (by kernel_rfl) (by kernel_rfl) (by kernel_rfl) (by kernel_rfl) (Af (by kernel_rfl)) (Af (by kernel_rfl))
set_option maxRecDepth 1000000 in
theorem Law_pc2 (os : Os) : LaidIn Tryz.prog ((Law_world os).forCall (fun _ _ => 0) ⟨#[],Law_arg,[]⟩).memory [("strconv.isNotPrint32",Rows.laid_strconv_isNotPrint32)] [9,N0 + 4] := by
 rw [show (Rows.laid_strconv_isNotPrint32 : DataW Unit) = Lib.sliceData .u16 Lib.goPrintTabs.n32 from Go.Pinned.isNotPrint32_eq];exact Lib.laidIn_slice (t := 237) (e := 202) (te := 202) Lib.goPrintTabs.n32 (N0 + 4) (by kernel_rfl) (by kernel_rfl) (by kernel_rfl) (by kernel_rfl) (by kernel_rfl) (by kernel_rfl) (by kernel_rfl) (by kernel_rfl) (Af (by kernel_rfl)) (Af (by kernel_rfl))
set_option maxRecDepth 1000000 in
theorem Law_pc3 (os : Os) : LaidIn Tryz.prog ((Law_world os).forCall (fun _ _ => 0) ⟨#[],Law_arg,[]⟩).memory [("strconv.isPrint16",Rows.laid_strconv_isPrint16)] [6,N0 + 5] := by
 rw [show (Rows.laid_strconv_isPrint16 : DataW Unit) = Lib.sliceData .u16 Lib.goPrintTabs.p16 from Go.Pinned.isPrint16_eq];exact Lib.laidIn_slice (t := 237) (e := 202) (te := 202) Lib.goPrintTabs.p16 (N0 + 5) (by kernel_rfl) (by kernel_rfl) (by kernel_rfl) (by kernel_rfl) (by kernel_rfl) (by kernel_rfl) (by kernel_rfl) (by kernel_rfl) (Af (by kernel_rfl)) (Af (by kernel_rfl))
set_option maxRecDepth 1000000 in
theorem Law_pc4 (os : Os) : LaidIn Tryz.prog ((Law_world os).forCall (fun _ _ => 0) ⟨#[],Law_arg,[]⟩).memory [("strconv.isPrint32",Rows.laid_strconv_isPrint32)] [8,N0 + 6] := by
 rw [show (Rows.laid_strconv_isPrint32 : DataW Unit) = Lib.sliceData .u32 Lib.goPrintTabs.p32 from Go.Pinned.isPrint32_eq];exact Lib.laidIn_slice (t := 25) (e := 110) (te := 110) Lib.goPrintTabs.p32 (N0 + 6) (by kernel_rfl) (by kernel_rfl) (by kernel_rfl) (by kernel_rfl) (by kernel_rfl) (by kernel_rfl) (by kernel_rfl) (by kernel_rfl) (Af (by kernel_rfl)) (Af (by kernel_rfl))
theorem Law_pc5 (os : Os) : LaidIn Tryz.prog ((Law_world os).forCall (fun _ _ => 0) ⟨#[],Law_arg,[]⟩).memory ((Rows.inlineAttrMatchesSpecUptoRow.laid.drop 11).take 1) [1] :=
 LaidIn.of_run [1] 10 (by kernel_rfl) (by kernel_rfl) (by kernel_rfl) (by kernel_rfl)
theorem Law_met (os : Os) : laidMet Tryz.prog Rows.inlineAttrMatchesSpecUptoRow.laid ((Law_world os).forCall (fun _ _ => 0) ⟨#[],Law_arg,[]⟩).memory :=
 ((((((Law_pc0 os).append (Law_pc1 os) (by kernel_rfl)).append (Law_pc2 os) (by kernel_rfl)).append (Law_pc3 os) (by kernel_rfl)).append (Law_pc4 os) (by kernel_rfl)).append (Law_pc5 os) (by kernel_rfl)).met
theorem Law_row (os : Os) {H : Type} (enc : TypeId × Value → H) :
  (Rows.OpenSpec.upto Rows.inlineAttrMatchesSpecSpec).preRow enc Tryz.prog Tryz.f4 Rows.inlineAttrMatchesSpecUptoRow.domain false Rows.inlineAttrMatchesSpecUptoRow.laid ((Law_world os).forCall (fun _ _ => 0) ⟨#[],Law_arg,[]⟩).memory Law_arg := by
 have hw : (DataW.whole enc Tryz.prog ((Law_world os).forCall (fun _ _ => 0) ⟨#[],Law_arg,[]⟩).memory Tryz.f4.params.toList Rows.inlineAttrMatchesSpecSpec.vars false Law_arg.toList 8).map (fun x => (x.1,x.2.1)) =
   some ([.agg [.nil],.lit (.int .i64 0),.agg [.lit (.int .i64 0),.agg [.lit (.bool false),.nil],.agg [.lit (.bool false),.nil],.lit (.string []),.lit (.int .i64 0)],.agg [.lit (.int .i64 0),.agg [.lit (.bool false),.nil],.agg [.lit (.bool false),.nil],.lit (.string []),.lit (.int .i64 0)],.lit (.string []),.agg [.lit (.int .i64 0),.agg [.lit (.bool false),.nil],.agg [.lit (.bool false),.nil],.lit (.string []),.lit (.int .i64 0)]],[]) := by kernel_rfl
 obtain ⟨⟨x1,x2,x3⟩,hx,hx1⟩ := Option.map_eq_some_iff.1 hw;simp only [Prod.mk.injEq] at hx1;obtain ⟨rfl,rfl⟩ := hx1;exact OpenSpec.preRow_of_cond 8 hx (by kernel_rfl) (fun k hk => by cases hk;kernel_rfl) (by kernel_rfl) (Law_met os)
theorem Str_open {H : Type} {enc : TypeId × Value → H} {P : Program} {W : World} {base : Nat} {t : TypeId} {v : Value} {d : DataW H} {ps : List MemPlace}
  (ht : P.underlying t = some .string) (hv : Value.okWide P W .any base t v) (h : DataW.Trod enc P W 0 (fun _ => true) true t v d ps) :
  ∃ s : ByteArray,v = .string s ∧ s.size ≤ Rows.uptoBulk d := by
 obtain ⟨s,rfl⟩ := okWide_string ht hv;obtain ⟨fuel,hf⟩ := h;obtain ⟨k,hk,hx,_⟩ := DataW.trod_string ht hf;simp only [Prod.mk.injEq] at hx;simp only [Value.cells,List.cons.injEq,and_true] at hk;refine ⟨s,rfl,?_⟩;rw [hx.1];simp only [Value.string.injEq] at hk;rw [hk];simp only [Rows.uptoBulk];have e : k.data.toList.length = k.size := by rw [De];rfl
 omega
set_option maxRecDepth 100000 in
set_option maxHeartbeats 2000000 in
theorem Law_lifted (os : Os) (started : os.Started) (H : Type) (enc : TypeId × Value → H) (F : Stop.Interp) :
  ReturnsInHanded {} Tryz.checked os 4 .any ((Rows.OpenSpec.upto Rows.inlineAttrMatchesSpecSpec).preRow enc Tryz.prog Tryz.f4 Rows.inlineAttrMatchesSpecUptoRow.domain false Rows.inlineAttrMatchesSpecUptoRow.laid) (((Rows.OpenSpec.upto Rows.inlineAttrMatchesSpecSpec).at F).post enc Tryz.prog Tryz.f4 false true false false) := by
 refine returnsInHanded_of_row (C := Tryz.checked) (s := Rows.OpenSpec.upto Rows.inlineAttrMatchesSpecSpec) Law_own started (by kernel_rfl) Tryz.func4
  (witness_row_atRef (enc := enc) (C := Tryz.checked) false (Law_world os) Law_arg rfl (by kernel_rfl) (by kernel_rfl) (by kernel_rfl) (Law_row os enc)) ?_
 intro W base args ds gs before hval0 hW _ hk _ hL hS _;have hval : ∀ (j : Nat) t v,Tryz.f4.params[j]? = some t → args[j]? = some v → Value.okWide Tryz.prog W .any base t v := hval0;have hW' := hW;obtain ⟨p,q,hA0,hV,rfl,hfz,hnd⟩ := hW;have hA : DataW.TrodAll enc Tryz.prog W 0 (fun _ => true) true Tryz.f4.params.toList args.toList ds p := hA0;obtain ⟨rfl,rfl⟩ := trodVars_none hV;have hA1 := hA;rw [Tryz.params4] at hA hval;obtain ⟨v0,vs0,d0,ds0,p0,q0,hargs,rfl,rfl,h0,r0⟩ := trodAll_cons hA;obtain ⟨v1,vs1,d1,ds1,p1,q1,rfl,rfl,rfl,h1,r1⟩ := trodAll_cons r0;obtain ⟨v2,vs2,d2,ds2,p2,q2,rfl,rfl,rfl,h2,r2⟩ := trodAll_cons r1;obtain ⟨v3,vs3,d3,ds3,p3,q3,rfl,rfl,rfl,h3,r3⟩ := trodAll_cons r2;obtain ⟨v4,vs4,d4,ds4,p4,q4,rfl,rfl,rfl,h4,r4⟩ := trodAll_cons r3;obtain ⟨v5,vs5,d5,ds5,p5,q5,rfl,rfl,rfl,h5,r5⟩ := trodAll_cons r4;obtain ⟨rfl,rfl,rfl⟩ := trodAll_nil r5;obtain rfl : args = #[v0,v1,v2,v3,v4,v5] := by cases args;simp_all
 have hb : Rows.uptoBulkAll [d0,d1,d2,d3,d4,d5] ≤ 1048576 := by
  have := hk _ rfl;simpa [Rows.uptoSmall] using this
 simp only [Rows.uptoBulkAll] at hb;obtain ⟨x0,a0,i0⟩ := Opn.agg Opn.heap Tryz.underlying24 (hval 0 24 v0 rfl rfl) h0;obtain ⟨z1,rfl,-⟩ := Int_open Tryz.underlying3 (hval 1 3 v1 rfl rfl) h1;obtain ⟨x2,a2,i2⟩ := Opn.agg Opn.val Tryz.underlying29 (hval 2 29 v2 rfl rfl) h2;obtain ⟨x3,a3,i3⟩ := Opn.agg Opn.val Tryz.underlying29 (hval 3 29 v3 rfl rfl) h3;obtain ⟨z4,rfl,b4⟩ := Str_open Tryz.underlying9 (hval 4 9 v4 rfl rfl) h4;obtain ⟨x5,a5,i5⟩ := Opn.agg Opn.val Tryz.underlying29 (hval 5 29 v5 rfl rfl) h5;have hG := Law_glob hL hS;refine ((Law36_ok x0 z1 x2 x3 z4 x5 (i0 1048576 (by omega) (Ar _)) (i2 1048576 (by omega) (Ar _)) (i3 1048576 (by omega) (Ar _)) (i5 1048576 (by omega) (Ar _))).2 W (sW W) [v0,.int .i64 z1,v2,v3,.string z4,v5] (fun _ _ h => h) hG ⟨a0,rfl,a2,a3,rfl,a5,trivial⟩).mono fun e W' hQ => ?_;obtain ⟨s',x,he,hp,hst⟩ := hQ;have hp : x = .bool true := hp;subst hp;subst he;have bel := hst.below;have hl : laidOutB Tryz.prog = true := by kernel_rfl
 have hread : Tryz.f4.params.toList.all (fun t => Tryz.prog.readableRec t && decide (t < Tryz.prog.types.size)) = true := by kernel_rfl
 refine ⟨_,rfl,[d0,d1,d2,d3,d4,d5],[],_,[],(p0 ++ (p1 ++ (p2 ++ (p3 ++ (p4 ++ (p5 ++ ([]))))))),[],hW',?_,?_,?_,bel.frame _,fun h => by cases h⟩
 ·exact trodAll_mk1 (shut_bool Tryz.underlying4 _)
 ·exact mQ hl bel _ _ _ _ (fun t ht => by have := Bd.1 hread t ht;simpa using this) hA1
 ·rfl
theorem Law_fi : (Rows.inlineAttrMatchesSpecUptoRow.inPlace == Tryz.pinned.checked.prog.inPlace 4) = true := by kernel_rfl
theorem Law_fu : (Rows.inlineAttrMatchesSpecUptoRow.unfollowed == Tryz.pinned.checked.prog.unfollowed 4) = true := by kernel_rfl
theorem Law_fr : (Rows.inlineAttrMatchesSpecUptoRow.recurses == Tryz.pinned.checked.prog.recurses 4) = true := by kernel_rfl
theorem Law_fn : (Rows.inlineAttrMatchesSpecUptoRow.named == Tryz.pinned.checked.prog.varsNamed 4) = true := by kernel_rfl
theorem Law_facts : joinedFacts Tryz.pinned.checked.prog 4 Tryz.f4 (Rows.OpenSpec.upto Rows.inlineAttrMatchesSpecSpec).bare Rows.inlineAttrMatchesSpecUptoRow = true := by
 unfold joinedFacts;rw [Law_fi,Law_fu,Law_fr,Law_fn];kernel_rfl
theorem Law_inst : Tryz.f4.isInstance Tryz.pinned.checked.prog Rows.inlineAttrMatchesSpecUptoRow.origin Rows.inlineAttrMatchesSpecUptoRow.targs := Af (by kernel_rfl)
theorem Law_wrap : Tryz.f4.isWrapper Tryz.pinned.checked.prog Rows.inlineAttrMatchesSpecUptoRow.wrapper Rows.inlineAttrMatchesSpecUptoRow.mainSum := by unfold Func.isWrapper;first | (rw [Ab (by decide +kernel)];kernel_rfl) | (rw [Aa (by decide +kernel)];exact ⟨rfl,rfl⟩)
theorem Law_named : Tryz.pinned.checked.prog.funcNamed Rows.inlineAttrMatchesSpecUptoRow.func = some 4 := by kernel_rfl
theorem Law_looks : false = Tryz.pinned.checked.prog.looks [] := by kernel_rfl
theorem Law_goes : false = Rows.inlineAttrMatchesSpecUptoRow.goesBy Tryz.pinned.checked.prog := by kernel_rfl
theorem Law_wf : Rows.inlineAttrMatchesSpecUptoRow.wfByText (Rows.OpenSpec.upto Rows.inlineAttrMatchesSpecSpec) = true := by kernel_rfl
theorem Law_main : Tryz.pinned.checked.prog.mainIs = some (Rows.inlineAttrMatchesSpecUptoCard.stood.harness.1,Rows.inlineAttrMatchesSpecUptoCard.stood.harness.2.toList) := by kernel_rfl
theorem Law_said : Rows.InlineAttrMatchesSpecUptoSaid :=
 OpenClaim.holds_of_cond 4 Tryz.f4 rfl rfl rfl rfl rfl rfl rfl ⟨rfl,rfl,rfl,rfl,rfl⟩ rfl rfl rfl rfl rfl Law_named Tryz.func4 Law_facts Law_inst Law_wrap
  (fun os started H enc _ F => by rw [OpenClaim.pre_eq_preRow];exact Law_lifted os started H enc F)
theorem Law_plain (f : FuncId) (fn : Func) (hf : Tryz.pinned.checked.prog.funcNamed "brindlewood/brindlewoodlaw7.InlineAttrMatchesSpec" = some f) (hfn : Tryz.pinned.checked.prog.funcs[f]? = some fn) :
  false = Tryz.pinned.checked.prog.looks [] ∧ ∀ (j : Nat) t,fn.params[j]? = some t → Tryz.pinned.checked.prog.wantsStandIn t = false := by
 obtain rfl : f = 4 := Option.some.inj (Law_named.symm.trans hf) |>.symm;obtain rfl : fn = Tryz.f4 := (Option.some.inj (Tryz.func4.symm.trans hfn)).symm;refine ⟨Law_looks,fun j t ht => ?_⟩;rw [Tryz.params4] at ht;have hm := Array.mem_of_getElem? ht;simp only [List.mem_toArray,Be,Du,or_false] at hm;have wS : Tryz.prog.wantsStandIn 9 = false := by kernel_rfl
 have wh : Tryz.prog.wantsStandIn 24 = false := by kernel_rfl
 have wi : Tryz.prog.wantsStandIn 3 = false := by kernel_rfl
 have wv : Tryz.prog.wantsStandIn 29 = false := by kernel_rfl
 rcases hm with rfl | rfl | rfl | rfl | rfl | rfl
 ·exact wh
 ·exact wi
 ·exact wv
 ·exact wv
 ·exact wS
 ·exact wv
theorem Law_holds : Rows.InlineAttrMatchesSpecUptoCardSaid :=
 Claim7.holds_tied_plain_at .later [] _ _ _ _ Law_said (fun _ h => by cases h) Law_wf (fun _ h => by cases h) inlineAttrMatchesSpecUpto_row_tie rfl ⟨rfl,rfl⟩ Law_main rfl Law_plain Law_goes
end Go.Proofs.YtifgelimmddkpaaGreatDoor
