/- Part 24 of the proof. -/
import Derived.Test.YtbhndnphimmjjaaGreatDoorM23
import Derived.Test.YtbhndnphimmjjaaGreatDoorM21
import Derived.Test.YtbhndnphimmjjaaGreatDoorM20
import Derived.Test.YtbhndnphimmjjaaGreatDoorM19
namespace Go.Proofs.YtbhndnphimmjjaaGreatDoor
open Go.RowKit
variable {md me : Bool}
structure Skc (h : List Ob) (l : List Vl) : Prop where
 hc : HpC h
 hn : h.length ≤ 2000000
 vc : ∀ v ∈ l,VlC h.length v
 ln : l.length ≤ 2000000
 cost : cVs l + cH h ≤ 1073741824
theorem cOs_le {h : List Ob} {m : Nat} (hm : m ≤ h.length) : cOs h (List.range m) ≤ cH h := bB List.nodup_range fun n hn => by have := List.mem_range.1 hn;omega
theorem cOs_succ (h : List Ob) (m : Nat) : cOs h (List.range (m + 1)) = cOs h (List.range m) + cO (h.getD m ob0) := by
 rw [cOs,cOs,List.range_succ,List.map_append,List.sum_append,List.map_singleton,List.sum_singleton]
theorem SkI.nil (b : Int) (N : Nat) : SkI b N ⟨[],[]⟩ := ⟨(fun _ h => by cases h),List.nodup_nil⟩
theorem Rn.cost {b : Int} {e : Bool} {h : List Ob} {m C : Nat} {kf : Skt} (x : Rn b e h m C kf) (hi : x.i < x.k.ord.length) (hm : (m : Int) ≤ b) (hm2 : m ≤ h.length) : x.k.out.length + cO (h.getD (x.k.ord.getD x.i 0).toNat ob0) ≤ C + cH h := by
 have h1 := x.len;have h2 := gL0 (i := x.i + 1) x.inv hm hm2;have e0 : x.k.ord.getD x.i 0 = x.k.ord[x.i] := by rw [List.getD_eq_getElem?_getD,List.getElem?_eq_getElem hi];rfl
 rw [List.take_add_one,List.getElem?_eq_getElem hi] at h2;rw [e0];simp only [cOs,List.map_append,List.sum_append,Option.toList_some,List.map_cons,List.map_nil,List.sum_cons,List.sum_nil,Option.getD_some] at h1 h2 ⊢;omega
structure Bs (n : Nat) (h : List Ob) (k0 : Skt) where
 i : Nat
 le : i ≤ min n h.length
theorem yF1 {P : Program} {K : DS → Prop} {p : Prop} {r : Out} (hr : r.sat P K) (hp : p := by first | exact ⟨rfl,by show _ < y.k.ord.length;omega⟩ | rfl | (simp only [MR.len,List.length_map];done) | (simp only [MR.len,List.length_map];omega) | first | exact trivial | omega | exact ini (by omega) (by omega) | (intro hh;simp at hh;exact ini (by omega) (by omega)) | (intro hh;simp at hh ⊢;omega) | (simp at *;omega) | (simp_all;done)) : (Out.need p r).sat P K := ⟨hp,hr⟩
set_option maxHeartbeats 2000000 in
theorem zE0 (a : List Ob) (n : Nat) (l : List Vl) (hs : Skc a l) (hn : n ≤ 2000000) : Fn Tryz.prog 99 [hpD me a,.v (.int .i64 n),.sl false 7 l vlD vl0] (.v (.string (dL a n l))) := by
 have hc := hs.cost;have hal := hs.hn;have hb0 : (0 : Int) ≤ (n : Nat) := by omega
 have hN0 : a.length ≤ 1000000000 := by omega
 have v1 := bC0 (SkI.nil (n : Nat) a.length) hb0 hN0 hs.vc;have v2 := v1.len;have v3 : (⟨[],[]⟩ : Skt).out.length = 0 := rfl;have hm2 : min n a.length ≤ a.length := Nat.min_le_right _ _;have hm1 : ((min n a.length : Nat) : Int) ≤ (n : Nat) := by have := Nat.min_le_left n a.length;omega
 have b1 := wI0 (e := true) v1.inv hb0 hN0 hs.hc hm2;refine yL zM Tryz.func99 rfl rfl rfl rfl rfl rfl ?_;intro w0 s0 mx;refine zL 100 ?_;refine zL 200 ?_;refine gN 103 2 3 1 rfl rfl ?_;refine gN 103 3 5 1 rfl rfl ?_;refine yO0 200 rfl ?_;refine yO0 201 rfl ?_;refine yK [1,2,3,7] [0] 212 [] [(103,.box 145 [.sl me 10 a obD ob0,.v (.int .i64 (n : Nat)),.mo 200 ((⟨[],[]⟩ : Skt)).ord.length,.mo 201 ((⟨[],[]⟩ : Skt)).out.length]),(200,.mrow 3 1 (.map ((⟨[],[]⟩ : Skt)).ord iD 0)),(201,.mrow 5 1 (.map ((⟨[],[]⟩ : Skt)).out u8D 0))] ?_;refine ⟨⟨yH,⟨⟨rfl,Sub.refl _,rfl,Sub.refl _,rfl,Sub.mo (rfl),rfl,Sub.mo (rfl),rfl,trivial⟩,SubO.mp (rfl),SubO.mp (rfl),yG⟩,rfl,rfl⟩,?_⟩;refine zB (zE zM [1016] 300 rfl ?_);refine zF ?_;refine yJ _ _ (kW a (n : Nat) a.length ⟨[],[]⟩ l hb0 hN0 (SkI.nil _ _) hs.vc (by omega) hs.ln) rfl ?_;refine zF ?_;refine zC (zA (zB (zL 400 ?_)));refine zQ ?_;refine yC (ι := Bs n a (Skt.vs (n : Nat) ⟨[],[]⟩ l)) [1,3,7] [0] 450 (fun x => [(8,.v (.int .i64 x.i))]) (fun x => [(103,.box 145 [.sl me 10 a obD ob0,.v (.int .i64 (n : Nat)),.mo 200 (Skt.base (n : Nat) true a (Skt.vs (n : Nat) ⟨[],[]⟩ l) x.i).ord.length,.mo 201 (Skt.base (n : Nat) true a (Skt.vs (n : Nat) ⟨[],[]⟩ l) x.i).out.length]),(200,.mrow 3 1 (.map (Skt.base (n : Nat) true a (Skt.vs (n : Nat) ⟨[],[]⟩ l) x.i).ord iD 0)),(201,.mrow 5 1 (.map (Skt.base (n : Nat) true a (Skt.vs (n : Nat) ⟨[],[]⟩ l) x.i).out u8D 0))]) (fun x => a.length - x.i) ⟨0,Nat.zero_le _⟩ ?_;refine ⟨⟨⟨Sub.int rfl,yH⟩,⟨⟨rfl,Sub.refl _,rfl,Sub.refl _,rfl,Sub.mo (rfl),rfl,Sub.mo (rfl),rfl,trivial⟩,SubO.mp (rfl),SubO.mp (rfl),yG⟩,rfl,rfl⟩,fun x => ?_⟩;have hk0 := x.le;refine zB (zL 500 ?_);refine zS rfl (fun c4 => ?_) (fun c4 => ?_)
 ·have hlt : x.i < n ∧ x.i < a.length := by simpa using c4
  have b2 := wI0 (e := true) v1.inv hb0 hN0 hs.hc (m := x.i) (by omega);have b3 := b2.len;have b4 := cOs_le (h := a) (m := x.i + 1) (by omega);rw [cOs_succ] at b4;refine zO (zA (zB (zQ ?_)));refine zE zM [1031] 700 rfl ?_;refine zF ?_;refine yJ _ _ (mQ0 a (n : Nat) (Skt.base (n : Nat) true a (Skt.vs (n : Nat) ⟨[],[]⟩ l) x.i) (x.i : Nat) true hb0 hN0 hs.hc (by omega) (by omega) b2.inv (by rw [Int.toNat_natCast];omega)) rfl ?_;refine zF ?_;refine zC (zP (zA (yT zM [] 800 ?_)));have hN := uJ0 (n : Nat) true a (Skt.vs (n : Nat) ⟨[],[]⟩ l) x.i;exact zW ⟨x.i + 1,by omega⟩ ⟨⟨Sub.int (by push_cast;rfl),yH⟩,⟨⟨rfl,Sub.refl _,rfl,Sub.refl _,rfl,Sub.mo (congrArg (fun k : Skt => k.ord.length) hN).symm,rfl,Sub.mo (congrArg (fun k : Skt => k.out.length) hN).symm,rfl,trivial⟩,SubO.mp (congrArg (fun k : Skt => D.pvss (k.ord.map iD)) hN).symm,SubO.mp (congrArg (fun k : Skt => D.pvss (k.out.map u8D)) hN).symm,yG⟩,rfl,rfl⟩ (by show a.length - (x.i + 1) < a.length - x.i;omega)
 ·have hke : x.i = min n a.length := by have := x.le;simp at c4;omega
  refine yF (zZ (yB (zX (zA (zB (zL 800 ?_))))));refine zQ ?_;refine yC (ι := Rn (n : Nat) true a (min n a.length) (cVs l) (Skt.run (n : Nat) true a a.length 0 (Skt.base (n : Nat) true a (Skt.vs (n : Nat) ⟨[],[]⟩ l) (min n a.length)))) [7] [] 850 (fun y => [(9,.v (.int .i64 y.i))]) (fun y => [(103,.box 145 [.sl me 10 a obD ob0,.v (.int .i64 (n : Nat)),.mo 200 (y.k).ord.length,.mo 201 (y.k).out.length]),(200,.mrow 3 1 (.map (y.k).ord iD 0)),(201,.mrow 5 1 (.map (y.k).out u8D 0))]) (fun y => a.length - y.i) (Rn.start true (Skt.base (n : Nat) true a (Skt.vs (n : Nat) ⟨[],[]⟩ l) (min n a.length)) b1.inv (by have := b1.len;omega)) ?_;refine ⟨⟨⟨Sub.int rfl,yH⟩,⟨⟨rfl,Sub.refl _,rfl,Sub.refl _,rfl,Sub.mo (by rw [hke];rfl),rfl,Sub.mo (by rw [hke];rfl),rfl,trivial⟩,SubO.mp (by rw [hke];rfl),SubO.mp (by rw [hke];rfl),yG⟩,rfl,rfl⟩,fun y => ?_⟩;have yl := y.inv.len hb0;have yo := y.le;have yb := y.bound hm1 hm2;refine zB (zL 900 ?_);refine zS rfl (fun c8 => ?_) (fun c8 => ?_)
  ·have hlt2 : y.i < y.k.ord.length := by simpa using c8
   have y1 := y.at hlt2;have y2 := y.cost hlt2 hm1 hm2;refine zO (zA (zB (zQ ?_)));refine zE zM [1049] 1100 rfl ?_;repeat (first | refine zG ?_ | refine zH ?_ | refine yF1 ?_)
   refine yJ _ _ (mQ0 a (n : Nat) y.k (y.k.ord.getD y.i 0) true hb0 hN0 hs.hc (by omega) y1.2 y.inv (by omega)) rfl ?_;repeat (first | refine zG ?_ | refine zH ?_ | refine yF1 ?_)
   refine zC (zP (zA (yT zM [] 1200 ?_)));exact zW (y.next hlt2 hb0 hN0 hs.hc) ⟨⟨Sub.int (by show (y.i : Int) + 1 = ((y.i + 1 : Nat) : Int);push_cast;rfl),yH⟩,⟨⟨rfl,Sub.refl _,rfl,Sub.refl _,rfl,Sub.mo (rfl),rfl,Sub.mo (rfl),rfl,trivial⟩,SubO.mp (rfl),SubO.mp (rfl),yG⟩,rfl,rfl⟩ (by show a.length - (y.i + 1) < a.length - y.i;omega)
  ·have hfe := y.fin (by simpa using c8);refine yF (zZ (yB (zX (zA ?_))));refine vO 201 rfl (by repeat (first | exact trivial | exact rfl | refine ⟨?_,?_⟩)) (by repeat (first | exact trivial | exact (fun _ => rfl) | exact (fun h => absurd h (by decide)) | exact rfl | refine ⟨?_,?_⟩)) ?_;refine zB (zE zM [] 1200 rfl ?_);repeat (first | refine zG ?_ | refine zH ?_ | refine zU (by first | rfl | exact (congrArg (List.map u8D) (xJ _)).symm | first | exact trivial | omega | exact ini (by omega) (by omega) | (intro hh;simp at hh;exact ini (by omega) (by omega)) | (intro hh;simp at hh ⊢;omega) | (simp at *;omega) | (simp_all;done)) ?_)
   refine zC (zA (zJ ?_));exact FinV.ret rfl (SubP.str (by unfold dL;exact (congrArg (fun l : List UInt8 => (⟨l.toArray⟩ : ByteArray)) (xJ _)).trans (congrArg (fun k : Skt => (⟨k.out.toArray⟩ : ByteArray)) hfe)))
variable {md me : Bool}
def plnD (l : List St) (s : St) : D := .agg (stsD l :: stD s)
variable {md me : Bool}
def byV (t : ByteArray) : Vl := ⟨5,false,[],false,[],t,0⟩
theorem SubP.ownRows {α : Type} {k sz : Nat} {rows : List (List D)} {l : List α} {f : α → List D} {e : α} (h : RowsP rows (l.map f)) : SubP (.own k sz rows) (.sl false sz l f e) := fun w s v hv => by
 have h1 := zQ0 h hv;rw [yN,List.map_map] at h1;exact h1
def spV (s : St) : List Vl := nuV s.k :: nuV s.c :: byV s.s :: s.v :: s.w :: s.l
def spW (s : St) : List Vl := nuV (s.l.length : Nat) :: spV s
def pvS (L : List St) : List Vl := L.flatMap spW
structure StI (s : St) : Prop where
 k1 : -9223372036854775808 ≤ s.k
 k2 : s.k ≤ 9223372036854775807
 c1 : -9223372036854775808 ≤ s.c
 c2 : s.c ≤ 9223372036854775807
 l : s.l.length ≤ 1000000
theorem vE0 {s : St} (h : StI s) : (spW s).length ≤ 1000006 := by
 have := h.l;show s.l.length + 1 + 1 + 1 + 1 + 1 + 1 ≤ _;omega
theorem mX0 : ∀ {L : List St},(∀ s ∈ L,StI s) → (pvS L).length ≤ L.length * 1000006
 | [],_ => Nat.zero_le _
 | s :: L,h => by
  have h1 := vE0 (h s List.mem_cons_self);have h2 := mX0 (L := L) fun x hx => h x (List.mem_cons_of_mem _ hx);rw [pvS,List.flatMap_cons,List.length_append,List.length_cons];rw [pvS] at h2;omega
theorem xE0 {L : List St} {i : Nat} (h : i < L.length) : pvS (L.take (i + 1)) = pvS (L.take i) ++ spW (L.getD i st0) := by
 rw [List.take_add_one,List.getElem?_eq_getElem h,List.getD_eq_getElem?_getD,List.getElem?_eq_getElem h,pvS,pvS,List.flatMap_append];simp
theorem st_at {L : List St} {i : Nat} (h : i < L.length) (hL : ∀ s ∈ L,StI s) : StI (L.getD i st0) := by
 rw [List.getD_eq_getElem?_getD,List.getElem?_eq_getElem h];exact hL _ (List.getElem_mem _)
noncomputable def mS0 (h a : List Ob) (l : List St) (s : St) (b : List Ob) (l' : List St) (s' : St) : Bool := (decide ((h.length : Int) ≤ (a.length : Int)) && decide ((l.length : Int) = (l'.length : Int))) && decide (dL a h.length (pvS (s :: l)) = dL b h.length (pvS (s' :: l')))
theorem cW0 {P : Program} {K : DS → Prop} {p : Prop} {r : Out} (hr : r.sat P K) (hp : p := by first | exact jK (by have := hs.l;omega) | (simp only [List.length_map,List.length_cons,List.length_nil];have := hs.l;omega) | first | exact trivial | omega | exact ini (by omega) (by omega) | (intro hh;simp at hh;exact ini (by omega) (by omega)) | (intro hh;simp at hh ⊢;omega) | (simp at *;omega) | (simp_all;done)) : (Out.need p r).sat P K := ⟨hp,hr⟩
theorem StepValues_ok (s : St) (hs : StI s) : Fn Tryz.prog 133 [.agg (stD s)] (.sl false 7 (spV s) vlD vl0) := by
 refine yL zM Tryz.func133 rfl rfl rfl rfl rfl rfl ?_;intro w0 s0 mx;refine zL 100 ?_;refine zB (zV zM [16,19] [[],[0],[0,1],[],[3],(rgN 5),[],[6],[6,7],[],[9],[],[11],(rgN 13),[],[14],(rgN 16),(rgN 17)] 200 yR (by kernel_rfl) rfl ?_);repeat (first | refine zG ?_ | refine zH ?_ | refine cW0 ?_)
 refine zT _ (N_ok s.k hs.k1 hs.k2) rfl ?_;repeat (first | refine zG ?_ | refine zH ?_ | refine cW0 ?_)
 refine zT _ (N_ok s.c hs.c1 hs.c2) rfl ?_;repeat (first | refine zG ?_ | refine zH ?_ | refine cW0 ?_)
 refine zC (zA (zJ ?_));exact FinV.ret rfl (SubP.ownRows (by exact ⟨SubPs.refl _,SubPs.refl _,⟨SubP.refl _,SubP.refl _,SubP.nilSl rfl,SubP.refl _,SubP.nilSl rfl,SubP.refl _,SubP.refl _,trivial⟩,SubPs.refl _,SubPs.refl _,RowsP.refl _⟩))
theorem yE1 {P : Program} {K : DS → Prop} {p : Prop} {r : Out} (hr : r.sat P K) (hp : p := by first | (simp only [List.length_map,List.length_cons,List.length_nil];omega) | first | exact trivial | omega | exact ini (by omega) (by omega) | (intro hh;simp at hh;exact ini (by omega) (by omega)) | (intro hh;simp at hh ⊢;omega) | (simp at *;omega) | (simp_all;done)) : (Out.need p r).sat P K := ⟨hp,hr⟩
theorem yD1 {P : Program} {K : DS → Prop} {p : Prop} {r : Out} (hr : r.sat P K) (hp : p := by first | (simp only [List.length_append,List.length_map,List.length_cons,List.length_nil];have : (spV ((s :: l).getD x.1 st0)).length + 1 = (spW ((s :: l).getD x.1 st0)).length := rfl;omega) | first | exact trivial | omega | exact ini (by omega) (by omega) | (intro hh;simp at hh;exact ini (by omega) (by omega)) | (intro hh;simp at hh ⊢;omega) | (simp at *;omega) | (simp_all;done)) : (Out.need p r).sat P K := ⟨hp,hr⟩
theorem mV (l : List St) (s : St) (hl : l.length ≤ 1000) (hs : ∀ t ∈ s :: l,StI t) : Fn Tryz.prog 100 [plnD l s] (.sl false 7 (pvS (s :: l)) vlD vl0) := by
 have hL : (s :: l).length = l.length + 1 := rfl;refine yL zM Tryz.func100 rfl rfl rfl rfl rfl rfl ?_;intro w0 s0 mx;refine zL 100 ?_;refine zL 200 ?_;refine qA 3 29 7 rfl ?_;refine zB ?_;refine zB (zE zM [8,11] 300 rfl ?_);repeat (first | refine zG ?_ | refine zH ?_ | refine zU (by first | exact jK (by omega) | (simp only [List.length_map,List.length_cons,List.length_nil];omega) | first | exact trivial | omega | exact ini (by omega) (by omega) | (intro hh;simp at hh;exact ini (by omega) (by omega)) | (intro hh;simp at hh ⊢;omega) | (simp at *;omega) | (simp_all;done)) ?_)
 refine zC (zA ?_);refine yK [3,12,13] [200] 310 [(11,.sl false 18 (s :: l) stD st0)] [] ?_;refine ⟨⟨⟨Sub.ownSl rfl,yH⟩,yG,rfl,rfl⟩,?_⟩;refine zQ ?_;refine yC (ι := {i : Nat // i ≤ (s :: l).length}) [11,12] [] 350 (fun x => [(13,.v (.int .i64 x.1)),(3,.own 200 7 ((pvS ((s :: l).take x.1)).map vlD))]) (fun x => [(200,.row 29 7 ((pvS ((s :: l).take x.1)).map vlD).length)]) (fun x => (s :: l).length - x.1) ⟨0,Nat.zero_le _⟩ ?_;refine ⟨⟨yH,yG,rfl,rfl⟩,fun x => ?_⟩;have hk0 : x.1 ≤ (s :: l).length := x.2;refine zL 400 ?_;refine zB (zS rfl (fun c3 => ?_) (fun c3 => ?_))
 ·have hlt : x.1 < (s :: l).length := by simp at c3 ⊢;omega
  have hsi := st_at hlt hs;have hsl := hsi.l;have hp1 := mX0 (L := (s :: l).take x.1) (fun t ht => hs t (List.mem_of_mem_take ht));rw [List.length_take] at hp1;have hp2 : min x.1 (s :: l).length ≤ 1000 := by omega
  have hp3 := vE0 hsi;refine zO (zA (zB (zQ (zL 500 ?_))));refine yK [3,5,11,12,13] [200,402] 510 [] [(402,.box 43 (stD ((s :: l).getD x.1 st0)))] ?_;refine ⟨⟨yH,⟨⟨rfl,SubL.same rfl⟩,yG⟩,rfl,rfl⟩,?_⟩;refine zB (zE zM [] 600 rfl ?_);repeat (first | refine zG ?_ | refine zH ?_ | refine yE1 ?_)
  refine zT _ (N_ok (((s :: l).getD x.1 st0).l.length : Nat) (by omega) (by omega)) rfl ?_;repeat (first | refine zG ?_ | refine zH ?_ | refine yE1 ?_)
  refine zC (zA ?_);refine zE zM [] 700 rfl ?_;repeat (first | refine zG ?_ | refine zH ?_ | refine yD1 ?_)
  refine zT _ (StepValues_ok ((s :: l).getD x.1 st0) hsi) rfl ?_;repeat (first | refine zG ?_ | refine zH ?_ | refine yD1 ?_)
  refine zC (zP (zA (yT zM [] 800 ?_)));exact zW ⟨x.1 + 1,by omega⟩ ⟨⟨Sub.int (by push_cast;rfl),Sub.own (by rw [xE0 hlt,List.map_append,List.append_assoc];rfl),yH⟩,⟨⟨rfl,rfl,by rw [xE0 hlt];simp only [List.length_append,List.length_map,List.length_cons,List.length_nil];have : (spW ((s :: l).getD x.1 st0)).length = (spV ((s :: l).getD x.1 st0)).length + 1 := rfl;omega⟩,yG⟩,rfl,rfl⟩ (by show (s :: l).length - (x.1 + 1) < (s :: l).length - x.1;omega)
 ·have hke : x.1 = (s :: l).length := by simp at c3;omega
  refine yF (zZ (yB (zX (zA (zL 900 ?_)))));refine zJ ?_;exact FinV.ret rfl (SubP.ownSl (by rw [List.take_of_length_le (by omega)]))
theorem SameEffect_ok (h a : List Ob) (l : List St) (s : St) (b : List Ob) (l' : List St) (s' : St) (hh : h.length ≤ 2000000) (hl : l.length ≤ 1000) (hl' : l'.length ≤ 1000) (hs : ∀ t ∈ s :: l,StI t) (hs' : ∀ t ∈ s' :: l',StI t) (ha : Skc a (pvS (s :: l))) (hb : Skc b (pvS (s' :: l'))) : Fn Tryz.prog 59 [hpD md h,hpD me a,plnD l s,hpD me b,plnD l' s'] (.v (.bool (mS0 h a l s b l' s'))) := by
 refine yL zM Tryz.func59 rfl rfl rfl rfl rfl rfl ?_;intro w0 s0 mx;refine zL 100 ?_;refine zL 200 ?_;refine zB (zV zM [] [[],[0],[0,1],[],[0,1,2,3],(rgN 5),(rgN 6),(rgN 7),(rgN 8),(rgN 6),[0,1,2,3,4,5,9],[0,1,2,3,4,5,9,10],(rgN 12),(rgN 13),(rgN 14),(rgN 15),(rgN 15),(rgN 15),[0,1,2,3,4,5,6,7,8,9,10,11,12,13,14,17],(rgN 19),(rgN 15),(rgN 15),(rgN 15),[0,1,2,3,4,5,6,7,8,9,10,11,12,13,14,15,16,17,18,19,22],(rgN 24),(rgN 25),(rgN 26),(rgN 27)] 300 yR (by kernel_rfl) rfl ?_);refine zF ?_;refine yS _ (fun hg18 => mV l s hl hs) rfl ?_;refine zF ?_;refine yS _ (fun hg19 => zE0 a h.length _ ha hh) rfl ?_;refine zF ?_;refine yS _ (fun hg23 => mV l' s' hl' hs') rfl ?_;refine zF ?_;refine yS _ (fun hg24 => zE0 b h.length _ hb hh) rfl ?_;refine zF ?_;refine zC (zA (zJ ?_));exact FinV.ret rfl (SubP.bool (by unfold mS0;simp [Bool.and_assoc]))
theorem SameStepEffect_ok (h a : List Ob) (s : St) (b : List Ob) (s' : St) (hh : h.length ≤ 2000000) (hs : StI s) (hs' : StI s') (ha : Skc a (pvS [s])) (hb : Skc b (pvS [s'])) : Fn Tryz.prog 18 [hpD md h,hpD me a,.agg (stD s),hpD me b,.agg (stD s')] (.v (.bool (mS0 h a [] s b [] s'))) := by
 refine yL zM Tryz.func18 rfl rfl rfl rfl rfl rfl ?_;intro w0 s0 mx;refine zL 100 ?_;refine zB (zE zM [] 200 rfl ?_);refine zF ?_;refine zT _ ((SameEffect_ok h a [] s b [] s' hh (by decide) (by decide) (fun t ht => by rw [List.mem_singleton.1 ht];exact hs) (fun t ht => by rw [List.mem_singleton.1 ht];exact hs') ha hb).args ⟨SubP.refl _,SubP.refl _,SubP.agg ⟨SubP.nilSl rfl,SubPs.refl _⟩,SubP.refl _,SubP.agg ⟨SubP.nilSl rfl,SubPs.refl _⟩,trivial⟩) rfl ?_;refine zF ?_;refine zC (zA (zJ ?_));exact FinV.ret rfl (SubP.refl _)
theorem uV0 {v : Vl} (h : jF v = true) : v.nl.length ≤ 128 ∧ v.dl.length ≤ 128 ∧ v.s.size ≤ 4000 := by
 have hz : ∀ {b : Bool} {l : List Nat},zI b l = true → l.length ≤ 128 := fun h => by rw [zI,mP0] at h;rw [h.2];decide
 have hi : ∀ {b : Bool} {l : List Nat},vG b l = true → l.length ≤ 128 := fun h => by
  simp only [vG,Bool.and_eq_true,decide_eq_true_eq] at h;exact h.1
 have he : ∀ {s : ByteArray},emS s = true → s.size ≤ 4000 := fun h => by
  have := of_decide_eq_true h;subst this;decide
 unfold jF at h;repeat' split at h
 all_goals (try simp only [Bool.and_eq_true,decide_eq_true_eq] at h)
 ·exact ⟨hz h.1.1.1,hz h.1.1.2,he h.1.2⟩
 ·exact ⟨hz h.1.1.1,hz h.1.1.2,he h.1.2⟩
 ·exact ⟨hi h.1.1.1,hz h.1.1.2,he h.1.2⟩
 ·have hr := h.1.1.1;simp only [ratS,Bool.and_eq_true] at hr;exact ⟨hi hr.1.1.1,hi hr.1.1.2,he h.1.2⟩
 ·exact ⟨hz h.1.1.1.1,hz h.1.1.1.2,by have := h.2;omega⟩
 ·exact ⟨hz h.1.1.1,hz h.1.1.2,by have := h.2;omega⟩
 ·have hd := h.2;simp only [dotS,Bool.and_eq_true,decide_eq_true_eq] at hd;exact ⟨hz h.1.1.1,hz h.1.1.2,by have := hd.2;omega⟩
 ·exact ⟨hz h.1.1,hz h.1.2,he h.2⟩
 ·cases h
theorem kU0 {v : Vl} (h : jF v = true) : cV v ≤ 2108 + 10 * v.s.size := by
 have := uV0 h;unfold cV;omega
theorem dB0 (o : Ob) (v : Vl) : cV (fixV o v) = cV v ∧ (fixV o v).s = v.s := by
 unfold fixV;split <;> exact ⟨rfl,rfl⟩
theorem dR0 : ∀ {l : List Vl},(∀ v ∈ l,cV v ≤ 2108 + 10 * v.s.size) → cVs l ≤ 2108 * l.length + 10 * (l.map fun v => v.s.size).sum + 1
 | [],_ => Nat.le_refl _
 | v :: l,h => by
  have h1 := h v List.mem_cons_self;have h2 := dR0 (l := l) fun x hx => h x (List.mem_cons_of_mem _ hx);unfold cVs at h2 ⊢;rw [List.map_cons,List.sum_cons,List.map_cons,List.sum_cons,List.length_cons];omega
theorem gE (f : Nat → Nat) : ∀ n,sumN f n = ((List.range n).map f).sum
 | 0 => rfl
 | n + 1 => by rw [sumN,gE f n,List.range_succ,List.map_append,List.sum_append,List.map_singleton,List.sum_singleton]
theorem pL {α : Type} (g : α → Nat) (d : α) : ∀ l : List α,((List.range l.length).map fun j => g (l.getD j d)).sum = (l.map g).sum
 | [] => rfl
 | x :: l => by
  rw [List.length_cons,List.range_succ_eq_map,List.map_cons,List.sum_cons,List.map_map,List.map_cons,List.sum_cons,← pL g d l];rfl
theorem bytO_eq (o : Ob) : bytO o (kvs o).length = ((kvs o).map fun v => v.s.size).sum := by
 rw [bytO,gE];exact pL (fun v : Vl => v.s.size) vl0 (kvs o)
theorem tM0 : ∀ {l seen : List ByteArray},nmF seen l = 0 → ∀ s ∈ l,uR s = true
 | [],_,_,_,h => by cases h
 | x :: l,seen,h,s,hs => by
  rw [nmF] at h;split at h
  ·cases h
  ·rename_i h1;split at h
   ·cases h
   ·rcases List.mem_cons.1 hs with rfl | hs
    ·simpa using h1
    ·exact tM0 h s hs
theorem kE {s : ByteArray} (h : uR s = true) : s.size ≤ 24 := by
 simp only [uR,Bool.and_eq_true,Bool.not_eq_true',Bool.or_eq_false_iff,decide_eq_false_iff_not] at h;have := h.1.2;omega
theorem jB0 : ∀ {l : List ByteArray},(∀ s ∈ l,s.size ≤ 24) → (l.map fun s => s.size + 1).sum ≤ 25 * l.length
 | [],_ => Nat.le_refl _
 | s :: l,h => by
  have h1 := h s List.mem_cons_self;have h2 := jB0 (l := l) fun x hx => h x (List.mem_cons_of_mem _ hx);rw [List.map_cons,List.sum_cons,List.length_cons];omega
theorem jD0 {o : Ob} (hs : jO o = 0) (hz : vL o = 0) : o.name.size ≤ 60 := by
 by_cases hc : Lib.contains (jS o.kind).data.toList [110] = true
 ·unfold vL at hz;rw [hc,Bool.true_and] at hz;split at hz
  ·cases hz
  ·rename_i h1;have h1 : xL o = true := by simpa using h1
   unfold xL at h1;split at h1
   ·simp only [dotS,Bool.and_eq_true,decide_eq_true_eq] at h1;have := h1.2;omega
   ·have := kE h1;omega
 ·unfold jO at hs;split at hs
  ·rename_i h1;have h2 := List.all_eq_true.1 h1 0 (by decide);have e : (lettersB.extract ((0 : Nat) : Int).toNat (((0 : Nat) : Int) + 1).toNat).data.toList = [110] := by decide +kernel
   unfold ltP at h2;rw [e] at h2;have hc : Lib.contains (jS o.kind).data.toList [110] = false := by simpa using hc
   rw [hc] at h2;have h3 : decide (o.name = ⟨#[]⟩) = true := by simpa [uE0] using h2
   have := of_decide_eq_true h3;rw [this];decide
  ·cases hs
theorem sizes_le {o : Ob} (hz : vL o = 0) : o.names.length ≤ 200 ∧ o.items.length ≤ 1000 ∧ o.keys.length ≤ 1000 ∧ o.refs.length ≤ 1000 := by
 unfold vL at hz;split at hz
 ·cases hz
 ·split at hz
  ·cases hz
  ·rename_i h2;simp only [Bool.or_eq_true,decide_eq_true_eq,not_or] at h2;obtain ⟨h3,h4⟩ := h2;unfold mx3 at h3;repeat' split at h3
   all_goals omega
theorem xM0 {h : List Ob} {o : Ob} {i : Int} (hs : jO o = 0) (ho : uU h o i = true) : o.order.length ≤ 40 := by
 by_cases hk : o.kind = 9
 ·unfold uU at ho;rw [if_neg (fun hh => hh hk)] at ho;simp only [Bool.and_eq_true,decide_eq_true_eq] at ho;rw [ho.2,List.length_append];have : (uZ (zW0 h o)).1.length ≤ 39 := by
   unfold uZ;repeat' split
   ·exact Nat.zero_le _
   ·exact Nat.zero_le _
   ·exact Nat.zero_le _
   ·show (mgS (zW0 h o)).1.length ≤ 39;omega
  show 1 + _ ≤ _;omega
 ·rw [(qO0 hs).2.2.2.2 hk];exact Nat.zero_le _
theorem cO_hi {h : List Ob} {o : Ob} {i : Nat} (g : Uho h o i) : cO o ≤ 6704 + 2108 * (o.items.length + o.keys.length + o.refs.length) + 10 * ((kvs o).map fun v => v.s.size).sum := by
 have v := qG0 g.vals;have h1 := jD0 g.shape g.sizes;have h2 := sizes_le g.sizes;have h3 := xM0 g.shape g.order;have h4 := jB0 fun s hs => kE (tM0 g.names s hs);have hv : ∀ x ∈ o.keys ++ o.items,cV x ≤ 2108 + 10 * x.s.size := fun x hx => by
  have e := dB0 o x;have := kU0 (v.ok x hx);rw [e.1,e.2] at this;exact this
 have h5 := dR0 (l := o.keys) fun x hx => hv x (List.mem_append.2 (.inl hx));have h6 := dR0 (l := o.items) fun x hx => hv x (List.mem_append.2 (.inr hx));have h7 : ((kvs o).map fun v => v.s.size).sum = (o.items.map fun v => v.s.size).sum + (o.keys.map fun v => v.s.size).sum := by
  rw [kvs,List.map_append,List.sum_append]
 have hc : cO o = 120 + 10 * o.name.size + (o.names.map fun s => s.size + 1).sum + 23 * o.refs.length + 23 * o.order.length + cVs o.keys + cVs o.items := rfl;rw [hc,h7];omega
theorem bg_ok : (List.range 49).all (fun i => decide (cO (bgO i) ≤ 6704) && (((bgO i).refs.all fun n => decide (0 ≤ n) && decide (n < 49)) && ((bgO i).order.all fun n => decide (0 ≤ n) && decide (n < 49)))) = true := by decide +kernel
theorem gR0 {i : Nat} (hi : i < 49) : cO (bgO i) ≤ 6704 ∧ (∀ n ∈ (bgO i).refs,0 ≤ n ∧ n < 49) ∧ ∀ n ∈ (bgO i).order,0 ≤ n ∧ n < 49 := by
 have h := List.all_eq_true.1 bg_ok i (List.mem_range.2 hi);simp only [Bool.and_eq_true,decide_eq_true_eq,List.all_eq_true] at h;exact ⟨h.1,h.2.1,h.2.2⟩
theorem qV0 (h : List Ob) (i : Nat) : yA h (i : Nat) = h.getD i ob0 := by
 show h.getD ((i : Nat) : Int).toNat ob0 = _;rw [Int.toNat_natCast]
theorem kH {h : List Ob} {n : Int} (hn : yW h n = true) : 0 ≤ n ∧ n < (h.length : Int) := by
 have := yC0 hn;omega
theorem bW0 {h : List Ob} (g : Uh h) (hh : HpIn h) {i : Nat} (hi : i < h.length) : ObC h.length (yA h i) := by
 have hin := hh.at (i : Nat);have hlo := g.lo;by_cases h49 : i < 49
 ·have e := g.lo_at h49;have hb := gR0 h49;rw [e] at hin ⊢;exact ⟨hin,fun hk => absurd hk (by show ¬ (9 : Int) = 18;decide),fun hk => absurd hk (by show ¬ ((9 : Int) = 10 ∨ (9 : Int) = 7);decide),fun n hn => by have := hb.2.1 n hn;omega,fun n hn => by have := hb.2.2 n hn;omega,(fun v hv => by cases hv),(fun v hv => by cases hv)⟩
 ·have u := g.hi_at (by omega) hi;have v := qG0 u.vals;refine ⟨hin,fun hk => ?_,fun _ => (kH v.cls).2,fun n hn => kH (v.refs n hn),fun n hn => kH (v.order n hn),fun x hx => ⟨hin.kv x hx,fun hk => (kH (v.vals x (List.mem_append.2 (.inl hx)) hk)).2⟩,fun x hx => ⟨hin.iv x hx,fun hk => (kH (v.vals x (List.mem_append.2 (.inr hx)) hk)).2⟩⟩;have hst := (qO0 u.shape).2.2.1;by_cases h0 : (yA h i).state = 0
  ·omega
  ·have h1 := v.weak hk h0;rw [qD0 (by omega) hin.st.2] at h1;exact (kH h1).2
theorem mem_obAt {h : List Ob} {o : Ob} (ho : o ∈ h) : ∃ i,i < h.length ∧ o = yA h (i : Nat) := by
 obtain ⟨i,hi,e⟩ := List.getElem_of_mem ho;exact ⟨i,hi,by rw [qV0,List.getD_eq_getElem?_getD,List.getElem?_eq_getElem hi,← e];rfl⟩
theorem bX0 {h : List Ob} (g : Uh h) (hh : HpIn h) : HpC h := fun o ho => by
 obtain ⟨i,hi,rfl⟩ := mem_obAt ho;exact bW0 g hh hi
theorem cH0 (h : List Ob) : cH h = (h.map cO).sum := pL cO ob0 h
theorem pr_sums {h : List Ob} (hp : (qR h).1 = 0) : sumN (nodN h) h.length ≤ 20000 ∧ sumN (bytN h) h.length ≤ 200000 := by
 have g := cP0 hp;unfold qR at hp;rw [if_neg (by have := g.hi;omega),if_neg (by have := g.lo;omega)] at hp;have hn : (List.range h.length).find? (fun i => !decide (wM h i = 0)) = none := by
  rw [List.find?_range_eq_none];intro i hi;simp [g.code i hi]
 rw [hn] at hp
 dsimp only at hp
 split at hp
 ·cases hp
 ·omega
theorem mJ0 {f a b : Nat → Nat} {c : Nat} : ∀ {n : Nat},(∀ i,i < n → f i ≤ c + 2108 * a i + 10 * b i) → ((List.range n).map f).sum ≤ c * n + 2108 * ((List.range n).map a).sum + 10 * ((List.range n).map b).sum
 | 0,_ => Nat.zero_le _
 | n + 1,h => by
  have h1 := mJ0 (n := n) fun i hi => h i (by omega);have h2 := h n (by omega);rw [List.range_succ,List.map_append,List.sum_append,List.map_append,List.sum_append,List.map_append,List.sum_append,List.map_singleton,List.map_singleton,List.map_singleton,List.sum_singleton,List.sum_singleton,List.sum_singleton,Nat.mul_succ];omega
theorem kZ0 {h : List Ob} (hp : (qR h).1 = 0) : cH h ≤ 80000000 := by
 have g := cP0 hp;have hs := pr_sums hp;rw [gE,gE] at hs;have h1 : cH h ≤ 6704 * h.length + 2108 * ((List.range h.length).map (nodN h)).sum + 10 * ((List.range h.length).map (bytN h)).sum := by
  refine mJ0 fun i hi => ?_;rw [← qV0];by_cases h49 : i < 49
  ·have hb := (gR0 h49).1;rw [g.lo_at h49];omega
  ·have hc := cO_hi (g.hi_at (by omega) hi);have e1 : nodN h i = (yA h i).items.length + (yA h i).keys.length + (yA h i).refs.length := if_neg (by omega);have e2 : bytN h i = bytO (yA h i) (kvs (yA h i)).length := if_neg (by omega);rw [e1,e2,bytO_eq];exact hc
 have := g.hi;omega
theorem cH_app (h : List Ob) (o : Ob) : cH (h ++ [o]) = cH h + cO o := by
 rw [cH0,cH0,List.map_append,List.sum_append,List.map_singleton,List.sum_singleton]
theorem pI0 {n : Int} (h0 : -9223372036854775808 ≤ n) (h1 : n ≤ 9223372036854775807) : VlIn (nuV n) ∧ (nuV n).nl.length ≤ 2 := by
 have hl : (nuV n).nl.length ≤ 2 := lim_length_le (k := 2) (by show n.natAbs < _;omega);exact ⟨⟨(by decide : (-9223372036854775808 : Int) ≤ 2),(by decide : (2 : Int) ≤ 9223372036854775807),(by decide : (-9223372036854775808 : Int) ≤ 0),(by decide : (0 : Int) ≤ 9223372036854775807),lim_Dg _,(fun _ h => by cases h),by omega,(by decide : 0 ≤ 2000000),(by decide : ByteArray.empty.size ≤ 2000000)⟩,hl⟩
theorem pJ0 {n : Int} (h0 : -9223372036854775808 ≤ n) (h1 : n ≤ 9223372036854775807) : cV (nuV n) ≤ 76 := by
 have h := (pI0 h0 h1).2;have e : cV (nuV n) = 60 + 10 * 0 + 8 * (nuV n).nl.length + 8 * 0 := rfl;omega
theorem zB1 {N : Nat} {n : Int} (h0 : -9223372036854775808 ≤ n) (h1 : n ≤ 9223372036854775807) : VlC N (nuV n) := ⟨(pI0 h0 h1).1,fun hk => absurd hk (by show ¬ (2 : Int) = 6;decide)⟩
theorem byV_C {N : Nat} {t : ByteArray} (ht : t.size ≤ 2000000) : VlC N (byV t) := ⟨⟨(by decide : (-9223372036854775808 : Int) ≤ 5),(by decide : (5 : Int) ≤ 9223372036854775807),(by decide : (-9223372036854775808 : Int) ≤ 0),(by decide : (0 : Int) ≤ 9223372036854775807),(fun _ h => by cases h),(fun _ h => by cases h),(by decide : 0 ≤ 2000000),(by decide : 0 ≤ 2000000),ht⟩,fun hk => absurd hk (by show ¬ (5 : Int) = 6;decide)⟩
theorem kW0 (N : Nat) : VlC N vl0 := ⟨kV0,fun hk => absurd hk (by show ¬ (0 : Int) = 6;decide)⟩
theorem qA1 {v : Vl} (h : VlIn v) : cV v ≤ 52000060 := by
 have := h.s;have := h.nn;have := h.dn;unfold cV;omega
structure StC (N : Nat) (s : St) : Prop where
 i : StI s
 t : s.s.size ≤ 2000000
 v : VlC N s.v
 w : VlC N s.w
 l : ∀ x ∈ s.l,VlC N x
 cl : cVs s.l ≤ 300000000
theorem spW_C {N : Nat} {s : St} (h : StC N s) : (∀ x ∈ spW s,VlC N x) ∧ (∀ x ∈ spW s,True) ∧ cVs (spW s) ≤ 450000000 := by
 have h1 := zB1 (N := N) h.i.k1 h.i.k2;have h2 := zB1 (N := N) h.i.c1 h.i.c2;have hl := h.i.l;have h3 := zB1 (N := N) (n := (s.l.length : Nat)) (by omega) (by omega);refine ⟨fun x hx => ?_,fun _ _ => trivial,?_⟩
 ·unfold spW spV at hx;simp only [List.mem_cons] at hx;rcases hx with rfl | rfl | rfl | rfl | rfl | rfl | hx
  ·exact h3
  ·exact h1
  ·exact h2
  ·exact byV_C h.t
  ·exact h.v
  ·exact h.w
  ·exact h.l x hx
 ·have c1 := pJ0 h.i.k1 h.i.k2;have c2 := pJ0 h.i.c1 h.i.c2;have c3 := pJ0 (n := (s.l.length : Nat)) (by omega) (by omega);have c4 : cV (byV s.s) = 60 + 10 * s.s.size + 8 * 0 + 8 * 0 := rfl;have c5 := qA1 h.v.vin;have c6 := qA1 h.w.vin;have ht := h.t;have c7 := h.cl;unfold cVs at c7 ⊢;unfold spW spV;simp only [List.map_cons,List.sum_cons];omega
theorem wX0 {h : List Ob} {s : St} (hc : HpC h) (hn : h.length ≤ 2000000) (hs : StC h.length s) (hq : cH h ≤ 600000000) : Skc h (pvS [s]) := by
 obtain ⟨h1,_,h3⟩ := spW_C hs;have e : pvS [s] = spW s := by simp [pvS]
 have hl := vE0 hs.i;exact ⟨hc,hn,by rw [e];exact h1,by rw [e];omega,by rw [e];omega⟩
theorem sameE_self {h a : List Ob} {l : List St} {s : St} (hl : h.length ≤ a.length) : mS0 h a l s a l s = true := by
 unfold mS0;have : (h.length : Int) ≤ (a.length : Int) := by omega
 simp [this]
def Gv (h : List Ob) (v : Vl) : Prop := jF v = true ∧ VlC h.length v
theorem has_gv {h : List Ob} {v : Vl} (hi : VlIn v) (hh : hasS h v = true) : Gv h v := by
 refine ⟨?_,hi,fun hk => (kH (kI hh hk)).2⟩;simp only [hasS,Bool.and_eq_true] at hh;exact hh.1
theorem zU1 {N : Nat} {v : Vl} (hv : VlC N v) : StC N (vlS v) := ⟨⟨(by decide : (-9223372036854775808 : Int) ≤ 0),(by decide : (0 : Int) ≤ 9223372036854775807),(by decide : (-9223372036854775808 : Int) ≤ 0),(by decide : (0 : Int) ≤ 9223372036854775807),(by decide : 0 ≤ 1000000)⟩,(by decide : ByteArray.empty.size ≤ 2000000),hv,kW0 N,(fun _ h => by cases h),(by decide : cVs [] ≤ 300000000)⟩
def mF : ByteArray := ⟨#[110,97,109,101]⟩
def ordB : ByteArray := ⟨#[111,114,100,101,114]⟩
def onR : ByteArray := ⟨#[111,110,95,114,101,97,100]⟩
def onW : ByteArray := ⟨#[111,110,95,119,114,105,116,101]⟩
def onM : ByteArray := ⟨#[111,110,95,109,105,115,115,105,110,103]⟩
def nhB : ByteArray := ⟨#[39,32,104,97,115,32,110,111,32,97,116,116,114,105,98,117,116,101,32,39]⟩
def qB : ByteArray := ⟨#[39]⟩
def cqB : ByteArray := ⟨#[99,108,97,115,115,32,39]⟩
def mqB : ByteArray := ⟨#[109,111,100,117,108,101,32,39]⟩
def atB : ByteArray := ⟨#[97,116,116,114,105,98,117,116,101,32,39]⟩
def cnrB : ByteArray := ⟨#[39,32,99,97,110,110,111,116,32,98,101,32,114,101,97,100]⟩
def suB : ByteArray := ⟨#[115,117,112,101,114,32,104,97,115,32,110,111,32,97,116,116,114,105,98,117,116,101,32,39]⟩
def dotB : ByteArray := ⟨#[46]⟩
theorem kbs (a : Array UInt8) : (⟨a⟩ : ByteArray).size = a.size := rfl
def mtO (f self : Vl) : Ob := ⟨8,ByteArray.empty,0,[],[],[],[f,self],[],0,0⟩
def tuO (l : List Vl) : Ob := ⟨1,ByteArray.empty,0,[],[],[],l,[],0,0⟩
def biV (s : ByteArray) : Vl := ⟨7,false,[],false,[],s,0⟩
def newS (h : List Ob) (o : Ob) : St × List Ob := (vlS (rfV (h.length : Nat)),h ++ [o])
def bdS (h : List Ob) (a v : Vl) (c : Int) (b : Bool) : St × List Ob :=
 if (b && kR h a) = true then newS h (mtO a v)
 else if (zR h a).kind = 13 then (vlS ((zR h a).items.getD 0 vl0),h)
 else if (zR h a).kind = 14 then newS h (mtO ((zR h a).items.getD 0 vl0) (rfV c))
 else if (spS h a onR).2.2 = true then (caS (spS h a onR).1 ((spS h a onR).2.1 ++ [if b = true then v else vl0,rfV c]),h)
 else (vlS a,h)
def whoS (h : List Ob) (v : Vl) : ByteArray := if (zR h v).kind = 9 then cqB ++ (zR h v).name else if (zR h v).kind = 11 then mqB ++ (zR h v).name else qB ++ (yA h (clA h v)).name
def lkS (h : List Ob) (v : Vl) (s : ByteArray) : St := raS 36 (whoS h v ++ nhB ++ s ++ qB)
def gtS (p : Ob) (v : Vl) (s : ByteArray) : St := if (p.items.getD 0 vl0).k = 0 then raS 36 (atB ++ s ++ cnrB) else caS (p.items.getD 0 vl0) [v]
def wiS (h : List Ob) (v : Vl) (s : ByteArray) (a : Vl) (ok : Bool) : St × List Ob :=
 if ok = true ∧ (zR h a).kind = 12 then (gtS (zR h a) v s,h)
 else if ok = true ∧ (spS h a onR).2.2 = true ∧ (spS h a onW).2.2 = true then bdS h a v (zR h v).cls true
 else if ownB (zR h v) s = true then (vlS (ownV (zR h v) s),h)
 else if ok = true then bdS h a v (zR h v).cls true
 else if (spS h v onM).2.2 = true then (caS (spS h v onM).1 ((spS h v onM).2.1 ++ [txV s]),h)
 else (lkS h v s,h)
def clsS (h : List Ob) (v : Vl) (s : ByteArray) : St × List Ob :=
 if s = mF then (vlS (txV (zR h v).name),h)
 else if s = ordB then newS h (tuO ((zR h v).order.map rfV))
 else if (fdO h (zR h v).order s).isSome = true then bdS h (fdV h s (fdO h (zR h v).order s)) vl0 v.r false
 else (lkS h v s,h)
def aftL (o : List Int) (c : Int) : List Int := o.drop (ixI o c + 1).toNat
def suC (h : List Ob) (o : Ob) : Int := if (zR h (o.items.getD 1 vl0)).kind = 10 then (zR h (o.items.getD 1 vl0)).cls else (o.items.getD 1 vl0).r
def suA (h : List Ob) (o : Ob) (s : ByteArray) : Option Int := fdO h (aftL (yA h (suC h o)).order (o.items.getD 0 vl0).r) s
def upS (h : List Ob) (o : Ob) (s : ByteArray) : St × List Ob :=
 if (suA h o s).isSome = false then (raS 36 (suB ++ s ++ qB),h)
 else if ¬ (zR h (o.items.getD 1 vl0)).kind = 10 then bdS h (fdV h s (suA h o s)) (o.items.getD 1 vl0) (suC h o) false
 else if (zR h (fdV h s (suA h o s))).kind = 12 then (gtS (zR h (fdV h s (suA h o s))) (o.items.getD 1 vl0) s,h)
 else bdS h (fdV h s (suA h o s)) (o.items.getD 1 vl0) (suC h o) true
def biS (h : List Ob) (v : Vl) (s : ByteArray) : St × List Ob :=
 if s = mF ∧ (jN h v).2 = true then (vlS (txV (jN h v).1),h)
 else if hasB (mtL (clA h v)) s = true then newS h (mtO (biV ((yA h (clA h v)).name ++ dotB ++ s)) v)
 else (lkS h v s,h)
def gatS (h : List Ob) (v : Vl) (s : ByteArray) : St × List Ob :=
 if (zR h v).kind = 10 then wiS h v s (fdV h s (fdO h (yA h (zR h v).cls).order s)) (fdO h (yA h (zR h v).cls).order s).isSome
 else if (zR h v).kind = 9 then clsS h v s
 else if (zR h v).kind = 11 then (if ownB (zR h v) s = true then (vlS (ownV (zR h v) s),h) else (lkS h v s,h))
 else if (zR h v).kind = 15 then upS h (zR h v) s
 else biS h v s
def Gc (h : List Ob) (v : Vl) : Prop := VlC h.length v ∧ cV v ≤ 43000
theorem gc_0 (h : List Ob) : Gc h vl0 := ⟨kW0 _,by show 60 ≤ 43000;omega⟩
theorem gv_gc {h : List Ob} {v : Vl} (hv : Gv h v) : Gc h v := ⟨hv.2,by
 have h1 := kU0 hv.1;have h2 := (uV0 hv.1).2.2;omega⟩
theorem gA0 {h : List Ob} (g : Uh h) (hh : HpIn h) {n : Int} (hn : inH h n) : ∀ x ∈ (yA h n).items,Gc h x := fun x hx => by
 have hC := bW0 g hh (i := n.toNat) hn.2;rw [← vW hn] at hC;refine ⟨hC.items x hx,?_⟩;by_cases h49 : n.toNat < 49
 ·rw [show yA h n = bgO n.toNat from g.lo_at h49] at hx
  cases hx
 ·have u := g.hi_at (by omega) hn.2;rw [← vW hn] at u;have hok := (qG0 u.vals).ok x (List.mem_append.2 (.inr hx));have e := dB0 (yA h n) x;have h1 := kU0 hok;have h2 := (uV0 hok).2.2;rw [e.1,e.2] at h1;rw [e.2] at h2;omega
theorem vD {h : List Ob} {l : List Vl} (hl : ∀ x ∈ l,Gc h x) (k : Nat) : Gc h (l.getD k vl0) := by
 rw [List.getD_eq_getElem?_getD]
 cases hq : l[k]? with
 | none => exact gc_0 h
 | some v => exact hl v (List.mem_of_getElem? hq)
theorem wH {h : List Ob} (g : Uh h) (hh : HpIn h) (v : Vl) : ∀ x ∈ (zR h v).items,Gc h x := fun x hx => by
 by_cases hk : v.k = 6 ∧ yW h v.r = true
 ·rw [show zR h v = yA h v.r from if_pos hk] at hx;exact gA0 g hh (yQ hk.2) x hx
 ·rw [show zR h v = ob0 from if_neg hk] at hx
  cases hx
theorem pW0 {h : List Ob} {o : Ob} (hl : ∀ x ∈ o.items,Gc h x) (s : ByteArray) : Gc h (ownV o s) := by
 unfold ownV;split
 ·exact gc_0 h
 ·exact vD hl _
theorem tY {h : List Ob} (g : Uh h) (hh : HpIn h) {L : List Int} (hL : ∀ r ∈ L,inH h r) (s : ByteArray) : Gc h (fdV h s (fdO h L s)) := by
 cases hf : fdO h L s with
 | none => exact gc_0 h
 | some r => exact pW0 (gA0 g hh (hL r (List.mem_of_find?_eq_some hf))) s
theorem vP0 {h : List Ob} {n : Int} (hn : inH h n) (hl : h.length ≤ 5000000) : Gc h (rfV n) := by
 obtain ⟨m,rfl⟩ : ∃ m : Nat,n = (m : Nat) := ⟨n.toNat,by have := hn.1;omega⟩;have h2 : m < h.length := by have := hn.2;simpa using this
 exact ⟨⟨⟨(by decide : (-9223372036854775808 : Int) ≤ 6),(by decide : (6 : Int) ≤ 9223372036854775807),(by show -9223372036854775808 ≤ (m : Int);omega),(by show (m : Int) ≤ 9223372036854775807;omega),(fun _ h => by cases h),(fun _ h => by cases h),(by decide : 0 ≤ 2000000),(by decide : 0 ≤ 2000000),(by decide : ByteArray.empty.size ≤ 2000000)⟩,fun _ => by show (m : Int) < h.length;omega⟩,by show 60 ≤ 43000;omega⟩
theorem yT1 {h : List Ob} (g : Uh h) (hh : HpIn h) {v : Vl} (hv : Gc h v) (s : ByteArray) : Gc h (spS h v s).1 ∧ (∀ x ∈ (spS h v s).2.1,Gc h x) ∧ (spS h v s).2.1.length ≤ 1 := by
 have hn : ∀ x ∈ ([] : List Vl),Gc h x := fun _ hx => by cases hx
 unfold spS;split
 ·exact ⟨gc_0 h,hn,Nat.zero_le _⟩
 ·rename_i hk;have hin := uJ g (v := v) (Classical.not_not.1 hk);have hf := tY g hh (L := (yA h (zR h v).cls).order) (fun r hr => ((vP hh g hin).2 r hr).1) s;split
  ·exact ⟨gc_0 h,hn,Nat.zero_le _⟩
  ·split
   ·exact ⟨hf,fun x hx => by rw [List.mem_singleton.1 hx];exact hv,Nat.le_refl _⟩
   ·split
    ·exact ⟨vD (wH g hh _) 0,hn,Nat.zero_le _⟩
    ·split
     ·exact ⟨vD (wH g hh _) 0,fun x hx => by rw [List.mem_singleton.1 hx];exact vP0 hin (by have := g.hi;omega),Nat.le_refl _⟩
     ·exact ⟨hf,hn,Nat.zero_le _⟩
structure Eg (h h' : List Ob) (s : St) : Prop where
 len : h.length ≤ h'.length
 st : StI s
 sk : Skc h' (pvS [s])
theorem cG0 {h : List Ob} {l : List Vl} (hl : ∀ x ∈ l,Gc h x) : cVs l ≤ 43000 * l.length + 1 := by
 induction l with
 | nil => exact Nat.le_refl _
 | cons v l ih =>
  have h1 := (hl v List.mem_cons_self).2;have h2 := ih fun x hx => hl x (List.mem_cons_of_mem _ hx);unfold cVs at h2 ⊢;rw [List.map_cons,List.sum_cons,List.length_cons,Nat.mul_succ];omega
theorem cF {h : List Ob} {v : Vl} (hv : VlC h.length v) : StC h.length (vlS v) := zU1 hv
theorem mM0 {h : List Ob} {f : Vl} {l : List Vl} (hf : Gc h f) (hl : ∀ x ∈ l,Gc h x) (h9 : l.length ≤ 1000) : StC h.length (caS f l) := by
 have hc := cG0 hl;exact ⟨⟨(by decide : (-9223372036854775808 : Int) ≤ 2),(by decide : (2 : Int) ≤ 9223372036854775807),(by decide : (-9223372036854775808 : Int) ≤ 0),(by decide : (0 : Int) ≤ 9223372036854775807),(by show l.length ≤ 1000000;omega)⟩,(by show ByteArray.empty.size ≤ 2000000;decide),kW0 _,hf.1,fun x hx => (hl x hx).1,by
  show cVs l ≤ 300000000;have : 43000 * l.length ≤ 43000 * 1000 := Nat.mul_le_mul_left _ h9;omega⟩
theorem mL0 {N : Nat} {s : ByteArray} (hs : s.size ≤ 2000000) : StC N (raS 36 s) := ⟨⟨(by decide : (-9223372036854775808 : Int) ≤ 1),(by decide : (1 : Int) ≤ 9223372036854775807),(by decide : (-9223372036854775808 : Int) ≤ 36),(by decide : (36 : Int) ≤ 9223372036854775807),(by decide : 0 ≤ 1000000)⟩,hs,kW0 N,kW0 N,(fun _ h => by cases h),(by decide : 1 ≤ 300000000)⟩
section
variable {h : List Ob} (g : Uh h) (hh : HpIn h) (hp : (qR h).1 = 0)
include g hh hp
theorem jY {s : St} (hs : StC h.length s) : Eg h h s := by
 have hq := kZ0 hp;exact ⟨Nat.le_refl _,hs.i,wX0 (bX0 g hh) hh.len hs (by omega)⟩
theorem cB0 {o : Ob} (ho : ObC (h.length + 1) o) (hc : cO o ≤ 100000000) : Eg h (newS h o).2 (newS h o).1 := by
 have hq := kZ0 hp;have hl := g.hi;have e : (h ++ [o]).length = h.length + 1 := by simp
 have hr : VlC (h ++ [o]).length (rfV (h.length : Nat)) := ⟨⟨(by decide : (-9223372036854775808 : Int) ≤ 6),(by decide : (6 : Int) ≤ 9223372036854775807),(by show -9223372036854775808 ≤ ((h.length : Nat) : Int);omega),(by show ((h.length : Nat) : Int) ≤ 9223372036854775807;omega),(fun _ h => by cases h),(fun _ h => by cases h),(by decide : 0 ≤ 2000000),(by decide : 0 ≤ 2000000),(by decide : ByteArray.empty.size ≤ 2000000)⟩,fun _ => by show ((h.length : Nat) : Int) < (h ++ [o]).length;omega⟩;have hst : StC (h ++ [o]).length (vlS (rfV (h.length : Nat))) := zU1 hr;refine ⟨by show h.length ≤ (h ++ [o]).length;omega,hst.i,wX0 (fun x hx => ?_) (by show (h ++ [o]).length ≤ 2000000;omega) hst ?_⟩
 ·rw [show (newS h o).2.length = h.length + 1 from e];rcases List.mem_append.1 hx with h1 | h1
  ·have hC := bX0 g hh x h1;exact ⟨hC.oin,fun hk => by have := hC.st hk;omega,fun hk => by have := hC.cls hk;omega,fun n hn => by have := hC.refs n hn;omega,fun n hn => by have := hC.order n hn;omega,fun v hv => ⟨(hC.keys v hv).vin,fun hk => by have := (hC.keys v hv).r hk;omega⟩,fun v hv => ⟨(hC.items v hv).vin,fun hk => by have := (hC.items v hv).r hk;omega⟩⟩
  ·rw [List.mem_singleton.1 h1];exact ho
 ·show cH (h ++ [o]) ≤ 600000000;rw [cH_app];omega
omit g hh hp in
theorem tN0 {k : Int} {l : List Vl} (hk : k = 8 ∨ k = 1) (hl : ∀ x ∈ l,Gc h x) (h9 : l.length ≤ 1000) : ObC (h.length + 1) ⟨k,ByteArray.empty,0,[],[],[],l,[],0,0⟩ ∧ cO ⟨k,ByteArray.empty,0,[],[],[],l,[],0,0⟩ ≤ 100000000 := by
 have hc := cG0 hl;refine ⟨⟨⟨by show _ ≤ k ∧ k ≤ _;omega,(by decide : (-9223372036854775808 : Int) ≤ 0 ∧ (0 : Int) ≤ 9223372036854775807),(by decide : (-9223372036854775808 : Int) ≤ 0 ∧ (0 : Int) ≤ 9223372036854775807),(by decide : (-9223372036854775808 : Int) ≤ 0 ∧ (0 : Int) ≤ 9223372036854775807),(by decide : ByteArray.empty.size ≤ 2000000),(by decide : 0 ≤ 2000000),(by decide : 0 ≤ 2000000),(by decide : 0 ≤ 2000000),(by show l.length ≤ 2000000;omega),(by decide : 0 ≤ 2000000),(fun _ h => by cases h),(fun v hv => (hl v hv).1.vin),(fun _ h => by cases h)⟩,fun h18 => by have h18 : k = 18 := h18;omega,fun h10 => by have h10 : k = 10 ∨ k = 7 := h10;omega,(fun _ h => by cases h),(fun _ h => by cases h),(fun _ h => by cases h),fun v hv => ⟨(hl v hv).1.vin,fun h6 => by have := (hl v hv).1.r h6;omega⟩⟩,?_⟩;have e : cO ⟨k,ByteArray.empty,0,[],[],[],l,[],0,0⟩ = 120 + 10 * 0 + 0 + 23 * 0 + 23 * 0 + 1 + cVs l := rfl;have : 43000 * l.length ≤ 43000 * 1000 := Nat.mul_le_mul_left _ h9;omega
theorem zO1 {f self : Vl} (hf : Gc h f) (hs : Gc h self) : Eg h (newS h (mtO f self)).2 (newS h (mtO f self)).1 := by
 have := tN0 (k := 8) (l := [f,self]) (.inl rfl) (fun x hx => by
  simp only [List.mem_cons,List.not_mem_nil,or_false] at hx;rcases hx with rfl | rfl
  ·exact hf
  ·exact hs) (by show 2 ≤ 1000;omega)
 exact cB0 g hh hp this.1 this.2
theorem dN0 {a v : Vl} {c : Int} {b : Bool} (ha : Gc h a) (hv : Gc h v) (hc : inH h c) : Eg h (bdS h a v c b).2 (bdS h a v c b).1 := by
 have hl := g.hi;have hrc := vP0 hc (by omega);unfold bdS;split
 ·exact zO1 g hh hp ha hv
 ·split
  ·exact jY g hh hp (cF (vD (wH g hh a) 0).1)
  ·split
   ·exact zO1 g hh hp (vD (wH g hh a) 0) hrc
   ·split
    ·have sp := yT1 g hh ha onR;refine jY g hh hp (mM0 sp.1 (fun x hx => ?_) (by rw [List.length_append];show _ + 2 ≤ 1000;omega));rcases List.mem_append.1 hx with h1 | h1
     ·exact sp.2.1 x h1
     ·simp only [List.mem_cons,List.not_mem_nil,or_false] at h1;rcases h1 with rfl | rfl
      ·split
       ·exact hv
       ·exact gc_0 h
      ·exact hrc
    ·exact jY g hh hp (cF ha.1)
end
theorem jA0 {h : List Ob} (g : Uh h) {n : Int} (hn : inH h n) : (yA h n).name.size ≤ 700 := by
 by_cases h49 : n.toNat < 49
 ·rw [show yA h n = bgO n.toNat from g.lo_at h49];have h1 := (gR0 h49).1;have h2 : cO (bgO n.toNat) = 120 + 10 * (bgO n.toNat).name.size + ((bgO n.toNat).names.map fun s => s.size + 1).sum + 23 * (bgO n.toNat).refs.length + 23 * (bgO n.toNat).order.length + cVs (bgO n.toNat).keys + cVs (bgO n.toNat).items := rfl;omega
 ·have u := g.hi_at (i := n.toNat) (by omega) hn.2;rw [← vW hn] at u;have := jD0 u.shape u.sizes;omega
theorem dC {h : List Ob} (g : Uh h) (v : Vl) : (zR h v).name.size ≤ 700 := by
 by_cases hk : v.k = 6 ∧ yW h v.r = true
 ·rw [show zR h v = yA h v.r from if_pos hk];exact jA0 g (yQ hk.2)
 ·rw [show zR h v = ob0 from if_neg hk];exact Nat.zero_le _
theorem tx_C {N : Nat} {s : ByteArray} (hs : s.size ≤ 2000000) : VlC N (txV s) := ⟨⟨(by decide : (-9223372036854775808 : Int) ≤ 4),(by decide : (4 : Int) ≤ 9223372036854775807),(by decide : (-9223372036854775808 : Int) ≤ 0),(by decide : (0 : Int) ≤ 9223372036854775807),(fun _ h => by cases h),(fun _ h => by cases h),(by decide : 0 ≤ 2000000),(by decide : 0 ≤ 2000000),hs⟩,fun hk => absurd hk (by show ¬ (4 : Int) = 6;decide)⟩
theorem zO0 {h : List Ob} (g : Uh h) {v : Vl} (hk : (zR h v).kind = 15) : (zR h v).items.length = 2 ∧ inH h (suC h (zR h v)) ∧ hasB (yA h (suC h (zR h v))).order ((zR h v).items.getD 0 vl0).r = true ∧ ((zR h ((zR h v).items.getD 1 vl0)).kind = 10 ∨ (zR h ((zR h v).items.getD 1 vl0)).kind = 9) := by
 obtain ⟨h6,ho,e⟩ := jH (h := h) (v := v) (by omega);have hin := yQ ho;unfold suC;rw [e] at hk ⊢;by_cases h49 : v.r.toNat < 49
 ·rw [show yA h v.r = bgO v.r.toNat from g.lo_at h49] at hk;have h9 : (bgO v.r.toNat).kind = 9 := rfl;omega
 ·have u := g.hi_at (i := v.r.toNat) (by omega) hin.2;rw [← vW hin] at u;have hs := (qO0 u.shape).1;rw [yZ1 hk] at hs;have hl := u.links;rw [jD,if_neg (by omega),if_neg (by omega),if_neg (by omega),if_neg (by omega),if_neg (by omega),if_neg (by omega),if_pos hk] at hl;have e0 : itm (yA h v.r) 0 = (yA h v.r).items.getD 0 vl0 := rfl;have e1 : itm (yA h v.r) 1 = (yA h v.r).items.getD 1 vl0 := rfl;rw [e1] at hl;refine ⟨by omega,?_⟩;by_cases h10 : (zR h ((yA h v.r).items.getD 1 vl0)).kind = 10
  ·rw [if_pos h10] at hl ⊢;simp only [supT,Bool.and_eq_true] at hl;exact ⟨yQ hl.1.2,hl.2,.inl h10⟩
  ·rw [if_neg h10] at hl ⊢;by_cases h9 : (zR h ((yA h v.r).items.getD 1 vl0)).kind = 9
   ·rw [if_pos h9] at hl;simp only [supT,Bool.and_eq_true] at hl;exact ⟨yQ hl.1.2,hl.2,.inr h9⟩
   ·rw [if_neg h9] at hl
    cases hl
theorem dX0 {h : List Ob} (hh : HpIn h) (g : Uh h) {c : Int} (hc : inH h c) (n : Int) : Cok h (aftL (yA h c).order n) := by
 have hk := vP hh g hc;refine ⟨?_,fun r hr => hk.2 r (List.mem_of_mem_drop hr)⟩;have := hk.1;unfold aftL;rw [List.length_drop];omega
theorem lk_C {h : List Ob} (g : Uh h) {v : Vl} (hv : hasS h v = true) {s : ByteArray} (hs : s.size ≤ 100) (N : Nat) : StC N (lkS h v s) := by
 have h1 := dC g v;have h2 := jA0 g (xW g (wF0 g hv));have hw : (whoS h v).size ≤ 1000 := by
  have q1 : qB.size ≤ 100 := by decide
  have q2 : cqB.size ≤ 100 := by decide
  have q3 : mqB.size ≤ 100 := by decide
  unfold whoS;repeat' split
  all_goals rw [ByteArray.size_append];omega
 refine mL0 ?_;have q1 : qB.size ≤ 100 := by decide
 have q4 : nhB.size ≤ 100 := by decide
 rw [ByteArray.size_append,ByteArray.size_append,ByteArray.size_append];omega
theorem gt_C {h : List Ob} (g : Uh h) (hh : HpIn h) (a : Vl) {v : Vl} (hv : Gc h v) {s : ByteArray} (hs : s.size ≤ 100) : StC h.length (gtS (zR h a) v s) := by
 unfold gtS;split
 ·refine mL0 ?_;have q1 : atB.size ≤ 100 := by decide
  have q2 : cnrB.size ≤ 100 := by decide
  rw [ByteArray.size_append,ByteArray.size_append];omega
 ·exact mM0 (vD (wH g hh a) 0) (fun x hx => by rw [List.mem_singleton.1 hx];exact hv) (by show 1 ≤ 1000;omega)
section
variable {h : List Ob} (g : Uh h) (hh : HpIn h) (hp : (qR h).1 = 0)
include g hh hp
theorem eg_wi {v a : Vl} {s : ByteArray} {ok : Bool} (hk : (zR h v).kind = 10) (hv : Gc h v) (hw : hasS h v = true) (ha : Gc h a) (hs : s.size ≤ 100) : Eg h (wiS h v s a ok).2 (wiS h v s a ok).1 := by
 have hc := uJ g hk;unfold wiS;split
 ·exact jY g hh hp (gt_C g hh a hv hs)
 ·split
  ·exact dN0 g hh hp ha hv hc
  ·split
   ·exact jY g hh hp (cF (pW0 (wH g hh v) s).1)
   ·split
    ·exact dN0 g hh hp ha hv hc
    ·split
     ·have sp := yT1 g hh hv onM;refine jY g hh hp (mM0 sp.1 (fun x hx => ?_) (by rw [List.length_append];show _ + 1 ≤ 1000;omega));rcases List.mem_append.1 hx with h1 | h1
      ·exact sp.2.1 x h1
      ·rw [List.mem_singleton.1 h1];refine ⟨tx_C (by omega),?_⟩;have e : cV (txV s) = 60 + 10 * s.size + 8 * 0 + 8 * 0 := rfl;omega
     ·exact jY g hh hp (lk_C g hw hs _)
theorem eg_cls {v : Vl} {s : ByteArray} (hk : (zR h v).kind = 9) (hv : Gc h v) (hw : hasS h v = true) (hs : s.size ≤ 100) : Eg h (clsS h v s).2 (clsS h v s).1 := by
 obtain ⟨h6,ho,e⟩ := jH (h := h) (v := v) (by omega);have hin := yQ ho;have hl := g.hi;have hok := vP hh g hin;unfold clsS;split
 ·exact jY g hh hp (cF (tx_C (by have := dC g v;omega)))
 ·split
  ·have hol : (yA h v.r).order.length ≤ 1000 := by
    by_cases h49 : v.r.toNat < 49
    ·rw [show yA h v.r = bgO v.r.toNat from g.lo_at h49];have h1 := (gR0 h49).1;have h2 : cO (bgO v.r.toNat) = 120 + 10 * (bgO v.r.toNat).name.size + ((bgO v.r.toNat).names.map fun s => s.size + 1).sum + 23 * (bgO v.r.toNat).refs.length + 23 * (bgO v.r.toNat).order.length + cVs (bgO v.r.toNat).keys + cVs (bgO v.r.toNat).items := rfl;omega
    ·have u := g.hi_at (i := v.r.toNat) (by omega) hin.2;rw [← vW hin] at u;have := xM0 u.shape u.order;omega
   have := tN0 (k := 1) (l := (zR h v).order.map rfV) (.inr rfl) (fun x hx => by
    obtain ⟨r,hr,rfl⟩ := List.mem_map.1 hx;rw [e] at hr;exact vP0 (hok.2 r hr).1 (by omega)) (by rw [List.length_map,e];exact hol)
   exact cB0 g hh hp this.1 this.2
  ·split
   ·exact dN0 g hh hp (tY g hh (fun r hr => by rw [e] at hr;exact (hok.2 r hr).1) s) (gc_0 h) hin
   ·exact jY g hh hp (lk_C g hw hs _)
theorem eg_up {v : Vl} {s : ByteArray} (hk : (zR h v).kind = 15) (hs : s.size ≤ 100) : Eg h (upS h (zR h v) s).2 (upS h (zR h v) s).1 := by
 have hl := zO0 g hk;have hc := dX0 hh g hl.2.1 ((zR h v).items.getD 0 vl0).r;have ha := tY g hh (L := aftL (yA h (suC h (zR h v))).order ((zR h v).items.getD 0 vl0).r) (fun r hr => (hc.2 r hr).1) s;have hw := vD (wH g hh v) 1;unfold upS;split
 ·refine jY g hh hp (mL0 ?_);have q1 : suB.size ≤ 100 := by decide
  have q2 : qB.size ≤ 100 := by decide
  rw [ByteArray.size_append,ByteArray.size_append];omega
 ·split
  ·exact dN0 g hh hp ha hw hl.2.1
  ·split
   ·exact jY g hh hp (gt_C g hh _ hw hs)
   ·exact dN0 g hh hp ha hw hl.2.1
omit hp in
theorem nam_sz {v : Vl} (hv : Gc h v) : (jN h v).1.size ≤ 2000000 := by
 have h1 : ∀ (p : ByteArray × Bool) (w : Vl),Gc h w → p.1.size ≤ 2000000 → (jP h p w).1.size ≤ 2000000 := fun p w hw hp => by
  unfold jP;split
  ·exact hw.1.vin.s
  ·split
   ·have := dC g w;show (zR h w).name.size ≤ 2000000;omega
   ·split
    ·exact hp
    ·show (⟨#[]⟩ : ByteArray).size ≤ 2000000;decide
 exact h1 _ _ hv (h1 _ _ (vD (wH g hh v) 0) (by show (⟨#[]⟩ : ByteArray).size ≤ 2000000;decide))
theorem eg_bi {v : Vl} {s : ByteArray} (hv : Gc h v) (hw : hasS h v = true) (hs : s.size ≤ 100) : Eg h (biS h v s).2 (biS h v s).1 := by
 unfold biS;split
 ·exact jY g hh hp (cF (tx_C (nam_sz g hh hv)))
 ·split
  ·refine zO1 g hh hp ⟨⟨⟨(by decide : (-9223372036854775808 : Int) ≤ 7),(by decide : (7 : Int) ≤ 9223372036854775807),(by decide : (-9223372036854775808 : Int) ≤ 0),(by decide : (0 : Int) ≤ 9223372036854775807),(fun _ h => by cases h),(fun _ h => by cases h),(by decide : 0 ≤ 2000000),(by decide : 0 ≤ 2000000),?_⟩,fun hk => absurd hk (by show ¬ (7 : Int) = 6;decide)⟩,?_⟩ hv;all_goals have h2 := jA0 g (xW g (wF0 g hw))
   all_goals have q1 : dotB.size ≤ 100 := by decide
   ·show ((yA h (clA h v)).name ++ dotB ++ s).size ≤ 2000000;rw [ByteArray.size_append,ByteArray.size_append];omega
   ·have e : cV (biV ((yA h (clA h v)).name ++ dotB ++ s)) = 60 + 10 * ((yA h (clA h v)).name ++ dotB ++ s).size + 8 * 0 + 8 * 0 := rfl;rw [ByteArray.size_append,ByteArray.size_append] at e;omega
  ·exact jY g hh hp (lk_C g hw hs _)
theorem eg_gat {v : Vl} {s : ByteArray} (hv : Gc h v) (hw : hasS h v = true) (hs : s.size ≤ 100) : Eg h (gatS h v s).2 (gatS h v s).1 := by
 unfold gatS;split
 ·rename_i hk;have hin := uJ g hk;exact eg_wi g hh hp hk hv hw (tY g hh (fun r hr => ((vP hh g hin).2 r hr).1) s) hs
 ·split
  ·rename_i hk;exact eg_cls g hh hp hk hv hw hs
  ·split
   ·split
    ·exact jY g hh hp (cF (pW0 (wH g hh v) s).1)
    ·exact jY g hh hp (lk_C g hw hs _)
   ·split
    ·rename_i hk;exact eg_up g hh hp hk hs
    ·exact eg_bi g hh hp hv hw hs
end
end Go.Proofs.YtbhndnphimmjjaaGreatDoor
