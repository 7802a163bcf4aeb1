/- Part 23 of the proof. -/
import Derived.Test.YtbhndnphimmjjaaGreatDoorM22
import Derived.Test.YtbhndnphimmjjaaGreatDoorM21
import Derived.Test.YtbhndnphimmjjaaGreatDoorM20
import Derived.Test.YtbhndnphimmjjaaGreatDoorM19
import Derived.Deep.RegionLaw
import Derived.Shelf.RegionOpenPlain
namespace Go.Proofs.YtbhndnphimmjjaaGreatDoor
open Go.RowKit
variable {md me : Bool}
structure Skc (h : List Ob) (l : List Vl) : Prop where
 hc : HpC h
 hn : h.length ≤ 2000000
 vc : ∀ v ∈ l,VlC h.length v
 ln : l.length ≤ 2000000
 cost : cVs l + cH h ≤ 1073741824
theorem cOs_le {h : List Ob} {m : Nat} (hm : m ≤ h.length) : cOs h (List.range m) ≤ cH h := dG List.nodup_range fun n hn => by have := List.mem_range.1 hn;omega
theorem cOs_succ (h : List Ob) (m : Nat) : cOs h (List.range (m + 1)) = cOs h (List.range m) + cO (h.getD m ob0) := by
 rw [cOs,cOs,List.range_succ,List.map_append,List.sum_append,List.map_singleton,List.sum_singleton]
theorem SkI.nil (b : Int) (N : Nat) : SkI b N ⟨[],[]⟩ := ⟨(fun _ h => by cases h),List.nodup_nil⟩
theorem Rn.cost {b : Int} {e : Bool} {h : List Ob} {m C : Nat} {kf : Skt} (x : Rn b e h m C kf) (hi : x.i < x.k.ord.length) (hm : (m : Int) ≤ b) (hm2 : m ≤ h.length) : x.k.out.length + cO (h.getD (x.k.ord.getD x.i 0).toNat ob0) ≤ C + cH h := by
 have h1 := x.len;have h2 := xQ0 (i := x.i + 1) x.inv hm hm2;have e0 : x.k.ord.getD x.i 0 = x.k.ord[x.i] := by rw [List.getD_eq_getElem?_getD,List.getElem?_eq_getElem hi];rfl
 rw [List.take_add_one,List.getElem?_eq_getElem hi] at h2;rw [e0];simp only [cOs,List.map_append,List.sum_append,Option.toList_some,List.map_cons,List.map_nil,List.sum_cons,List.sum_nil,Option.getD_some] at h1 h2 ⊢;omega
structure Bs (n : Nat) (h : List Ob) (k0 : Skt) where
 i : Nat
 le : i ≤ min n h.length
theorem cO0 {P : Program} {K : DS → Prop} {p : Prop} {r : Out} (hr : r.sat P K) (hp : p := by first | exact ⟨rfl,by show _ < y.k.ord.length;omega⟩ | rfl | (simp only [MR.len,List.length_map];done) | (simp only [MR.len,List.length_map];omega) | first | exact trivial | omega | exact ini (by omega) (by omega) | (intro hh;simp at hh;exact ini (by omega) (by omega)) | (intro hh;simp at hh ⊢;omega) | (simp at *;omega) | (simp_all;done)) : (Out.need p r).sat P K := ⟨hp,hr⟩
set_option maxHeartbeats 2000000 in
theorem cC (a : List Ob) (n : Nat) (l : List Vl) (hs : Skc a l) (hn : n ≤ 2000000) : Fn Tryz.prog 99 [hpD me a,.v (.int .i64 n),.sl false 7 l vlD vl0] (.v (.string (pT a n l))) := by
 have hc := hs.cost;have hal := hs.hn;have hb0 : (0 : Int) ≤ (n : Nat) := by omega
 have hN0 : a.length ≤ 1000000000 := by omega
 have v1 := dC0 (SkI.nil (n : Nat) a.length) hb0 hN0 hs.vc;have v2 := v1.len;have v3 : (⟨[],[]⟩ : Skt).out.length = 0 := rfl;have hm2 : min n a.length ≤ a.length := Nat.min_le_right _ _;have hm1 : ((min n a.length : Nat) : Int) ≤ (n : Nat) := by have := Nat.min_le_left n a.length;omega
 have b1 := vK0 (e := true) v1.inv hb0 hN0 hs.hc hm2;refine yL zN Tryz.func99 rfl rfl rfl rfl rfl rfl ?_;intro w0 s0 mx;refine zJ 100 ?_;refine zJ 200 ?_;refine gA 103 2 3 1 rfl rfl ?_;refine gA 103 3 5 1 rfl rfl ?_;refine gQ 200 rfl ?_;refine gQ 201 rfl ?_;refine yO [1,2,3,7] [0] 212 [] [(103,.box 145 [.sl me 10 a obD ob0,.v (.int .i64 (n : Nat)),.mo 200 ((⟨[],[]⟩ : Skt)).ord.length,.mo 201 ((⟨[],[]⟩ : Skt)).out.length]),(200,.mrow 3 1 (.map ((⟨[],[]⟩ : Skt)).ord iD 0)),(201,.mrow 5 1 (.map ((⟨[],[]⟩ : Skt)).out u8D 0))] ?_;refine ⟨⟨yI,⟨⟨rfl,Sub.refl _,rfl,Sub.refl _,rfl,Sub.mo (rfl),rfl,Sub.mo (rfl),rfl,trivial⟩,SubO.mp (rfl),SubO.mp (rfl),yF⟩,rfl,rfl⟩,?_⟩;refine zB (zE zN [1016] 300 rfl ?_);refine zH ?_;refine yN _ _ (kA a (n : Nat) a.length ⟨[],[]⟩ l hb0 hN0 (SkI.nil _ _) hs.vc (by omega) hs.ln) rfl ?_;refine zH ?_;refine zC (zA (zB (zJ 400 ?_)));refine zQ ?_;refine yB (ι := Bs n a (Skt.vs (n : Nat) ⟨[],[]⟩ l)) [1,3,7] [0] 450 (fun x => [(8,.v (.int .i64 x.i))]) (fun x => [(103,.box 145 [.sl me 10 a obD ob0,.v (.int .i64 (n : Nat)),.mo 200 (Skt.base (n : Nat) true a (Skt.vs (n : Nat) ⟨[],[]⟩ l) x.i).ord.length,.mo 201 (Skt.base (n : Nat) true a (Skt.vs (n : Nat) ⟨[],[]⟩ l) x.i).out.length]),(200,.mrow 3 1 (.map (Skt.base (n : Nat) true a (Skt.vs (n : Nat) ⟨[],[]⟩ l) x.i).ord iD 0)),(201,.mrow 5 1 (.map (Skt.base (n : Nat) true a (Skt.vs (n : Nat) ⟨[],[]⟩ l) x.i).out u8D 0))]) (fun x => a.length - x.i) ⟨0,Nat.zero_le _⟩ ?_;refine ⟨⟨⟨Sub.int rfl,yI⟩,⟨⟨rfl,Sub.refl _,rfl,Sub.refl _,rfl,Sub.mo (rfl),rfl,Sub.mo (rfl),rfl,trivial⟩,SubO.mp (rfl),SubO.mp (rfl),yF⟩,rfl,rfl⟩,fun x => ?_⟩;have hk0 := x.le;refine zB (zJ 500 ?_);refine zS rfl (fun c4 => ?_) (fun c4 => ?_)
 ·have hlt : x.i < n ∧ x.i < a.length := by simpa using c4
  have b2 := vK0 (e := true) v1.inv hb0 hN0 hs.hc (m := x.i) (by omega);have b3 := b2.len;have b4 := cOs_le (h := a) (m := x.i + 1) (by omega);rw [cOs_succ] at b4;refine zK (zA (zB (zQ ?_)));refine zE zN [1031] 700 rfl ?_;refine zH ?_;refine yN _ _ (kT0 a (n : Nat) (Skt.base (n : Nat) true a (Skt.vs (n : Nat) ⟨[],[]⟩ l) x.i) (x.i : Nat) true hb0 hN0 hs.hc (by omega) (by omega) b2.inv (by rw [Int.toNat_natCast];omega)) rfl ?_;refine zH ?_;refine zC (zO (zA (yS zN [] 800 ?_)));have hN := jL0 (n : Nat) true a (Skt.vs (n : Nat) ⟨[],[]⟩ l) x.i;exact zU ⟨x.i + 1,by omega⟩ ⟨⟨Sub.int (by push_cast;rfl),yI⟩,⟨⟨rfl,Sub.refl _,rfl,Sub.refl _,rfl,Sub.mo (congrArg (fun k : Skt => k.ord.length) hN).symm,rfl,Sub.mo (congrArg (fun k : Skt => k.out.length) hN).symm,rfl,trivial⟩,SubO.mp (congrArg (fun k : Skt => D.pvss (k.ord.map iD)) hN).symm,SubO.mp (congrArg (fun k : Skt => D.pvss (k.out.map u8D)) hN).symm,yF⟩,rfl,rfl⟩ (by show a.length - (x.i + 1) < a.length - x.i;omega)
 ·have hke : x.i = min n a.length := by have := x.le;simp at c4;omega
  refine yE (zZ (yA (zX (zA (zB (zJ 800 ?_))))));refine zQ ?_;refine yB (ι := Rn (n : Nat) true a (min n a.length) (cVs l) (Skt.run (n : Nat) true a a.length 0 (Skt.base (n : Nat) true a (Skt.vs (n : Nat) ⟨[],[]⟩ l) (min n a.length)))) [7] [] 850 (fun y => [(9,.v (.int .i64 y.i))]) (fun y => [(103,.box 145 [.sl me 10 a obD ob0,.v (.int .i64 (n : Nat)),.mo 200 (y.k).ord.length,.mo 201 (y.k).out.length]),(200,.mrow 3 1 (.map (y.k).ord iD 0)),(201,.mrow 5 1 (.map (y.k).out u8D 0))]) (fun y => a.length - y.i) (Rn.start true (Skt.base (n : Nat) true a (Skt.vs (n : Nat) ⟨[],[]⟩ l) (min n a.length)) b1.inv (by have := b1.len;omega)) ?_;refine ⟨⟨⟨Sub.int rfl,yI⟩,⟨⟨rfl,Sub.refl _,rfl,Sub.refl _,rfl,Sub.mo (by rw [hke];rfl),rfl,Sub.mo (by rw [hke];rfl),rfl,trivial⟩,SubO.mp (by rw [hke];rfl),SubO.mp (by rw [hke];rfl),yF⟩,rfl,rfl⟩,fun y => ?_⟩;have yl := y.inv.len hb0;have yo := y.le;have yb := y.bound hm1 hm2;refine zB (zJ 900 ?_);refine zS rfl (fun c8 => ?_) (fun c8 => ?_)
  ·have hlt2 : y.i < y.k.ord.length := by simpa using c8
   have y1 := y.at hlt2;have y2 := y.cost hlt2 hm1 hm2;refine zK (zA (zB (zQ ?_)));refine zE zN [1049] 1100 rfl ?_;repeat (first | refine zF ?_ | refine zG ?_ | refine cO0 ?_)
   refine yN _ _ (kT0 a (n : Nat) y.k (y.k.ord.getD y.i 0) true hb0 hN0 hs.hc (by omega) y1.2 y.inv (by omega)) rfl ?_;repeat (first | refine zF ?_ | refine zG ?_ | refine cO0 ?_)
   refine zC (zO (zA (yS zN [] 1200 ?_)));exact zU (y.next hlt2 hb0 hN0 hs.hc) ⟨⟨Sub.int (by show (y.i : Int) + 1 = ((y.i + 1 : Nat) : Int);push_cast;rfl),yI⟩,⟨⟨rfl,Sub.refl _,rfl,Sub.refl _,rfl,Sub.mo (rfl),rfl,Sub.mo (rfl),rfl,trivial⟩,SubO.mp (rfl),SubO.mp (rfl),yF⟩,rfl,rfl⟩ (by show a.length - (y.i + 1) < a.length - y.i;omega)
  ·have hfe := y.fin (by simpa using c8);refine yE (zZ (yA (zX (zA ?_))));refine jI 201 rfl (by repeat (first | exact trivial | exact rfl | refine ⟨?_,?_⟩)) (by repeat (first | exact trivial | exact (fun _ => rfl) | exact (fun h => absurd h (by decide)) | exact rfl | refine ⟨?_,?_⟩)) ?_;refine zB (zE zN [] 1200 rfl ?_);repeat (first | refine zF ?_ | refine zG ?_ | refine zT (by first | rfl | exact (congrArg (List.map u8D) (wY _)).symm | first | exact trivial | omega | exact ini (by omega) (by omega) | (intro hh;simp at hh;exact ini (by omega) (by omega)) | (intro hh;simp at hh ⊢;omega) | (simp at *;omega) | (simp_all;done)) ?_)
   refine zC (zA (zM ?_));exact FinV.ret rfl (SubP.str (by unfold pT;exact (congrArg (fun l : List UInt8 => (⟨l.toArray⟩ : ByteArray)) (wY _)).trans (congrArg (fun k : Skt => (⟨k.out.toArray⟩ : ByteArray)) hfe)))
variable {md me : Bool}
def plnD (l : List St) (s : St) : D := .agg (stsD l :: stD s)
variable {md me : Bool}
def byV (t : ByteArray) : Vl := ⟨5,false,[],false,[],t,0⟩
theorem SubP.ownRows {α : Type} {k sz : Nat} {rows : List (List D)} {l : List α} {f : α → List D} {e : α} (h : RowsP rows (l.map f)) : SubP (.own k sz rows) (.sl false sz l f e) := fun w s v hv => by
 have h1 := wF0 h hv;rw [yK,List.map_map] at h1;exact h1
def spV (s : St) : List Vl := nuV s.k :: nuV s.c :: byV s.s :: s.v :: s.w :: s.l
def spW (s : St) : List Vl := nuV (s.l.length : Nat) :: spV s
def pvS (L : List St) : List Vl := L.flatMap spW
structure StI (s : St) : Prop where
 k1 : -9223372036854775808 ≤ s.k
 k2 : s.k ≤ 9223372036854775807
 c1 : -9223372036854775808 ≤ s.c
 c2 : s.c ≤ 9223372036854775807
 l : s.l.length ≤ 1000000
theorem uF0 {s : St} (h : StI s) : (spW s).length ≤ 1000006 := by
 have := h.l;show s.l.length + 1 + 1 + 1 + 1 + 1 + 1 ≤ _;omega
theorem mB0 : ∀ {L : List St},(∀ s ∈ L,StI s) → (pvS L).length ≤ L.length * 1000006
 | [],_ => Nat.zero_le _
 | s :: L,h => by
  have h1 := uF0 (h s List.mem_cons_self);have h2 := mB0 (L := L) fun x hx => h x (List.mem_cons_of_mem _ hx);rw [pvS,List.flatMap_cons,List.length_append,List.length_cons];rw [pvS] at h2;omega
theorem wI0 {L : List St} {i : Nat} (h : i < L.length) : pvS (L.take (i + 1)) = pvS (L.take i) ++ spW (L.getD i st0) := by
 rw [List.take_add_one,List.getElem?_eq_getElem h,List.getD_eq_getElem?_getD,List.getElem?_eq_getElem h,pvS,pvS,List.flatMap_append];simp
theorem st_at {L : List St} {i : Nat} (h : i < L.length) (hL : ∀ s ∈ L,StI s) : StI (L.getD i st0) := by
 rw [List.getD_eq_getElem?_getD,List.getElem?_eq_getElem h];exact hL _ (List.getElem_mem _)
noncomputable def kW0 (h a : List Ob) (l : List St) (s : St) (b : List Ob) (l' : List St) (s' : St) : Bool := (decide ((h.length : Int) ≤ (a.length : Int)) && decide ((l.length : Int) = (l'.length : Int))) && decide (pT a h.length (pvS (s :: l)) = pT b h.length (pvS (s' :: l')))
theorem tM0 {P : Program} {K : DS → Prop} {p : Prop} {r : Out} (hr : r.sat P K) (hp : p := by first | exact qY (by have := hs.l;omega) | (simp only [List.length_map,List.length_cons,List.length_nil];have := hs.l;omega) | first | exact trivial | omega | exact ini (by omega) (by omega) | (intro hh;simp at hh;exact ini (by omega) (by omega)) | (intro hh;simp at hh ⊢;omega) | (simp at *;omega) | (simp_all;done)) : (Out.need p r).sat P K := ⟨hp,hr⟩
theorem StepValues_ok (s : St) (hs : StI s) : Fn Tryz.prog 133 [.agg (stD s)] (.sl false 7 (spV s) vlD vl0) := by
 refine yL zN Tryz.func133 rfl rfl rfl rfl rfl rfl ?_;intro w0 s0 mx;refine zJ 100 ?_;refine zB (zW zN [16,19] [[],[0],[0,1],[],[3],(rgN 5),[],[6],[6,7],[],[9],[],[11],(rgN 13),[],[14],(rgN 16),(rgN 17)] 200 yQ (by kernel_rfl) rfl ?_);repeat (first | refine zF ?_ | refine zG ?_ | refine tM0 ?_)
 refine zV _ (N_ok s.k hs.k1 hs.k2) rfl ?_;repeat (first | refine zF ?_ | refine zG ?_ | refine tM0 ?_)
 refine zV _ (N_ok s.c hs.c1 hs.c2) rfl ?_;repeat (first | refine zF ?_ | refine zG ?_ | refine tM0 ?_)
 refine zC (zA (zM ?_));exact FinV.ret rfl (SubP.ownRows (by exact ⟨SubPs.refl _,SubPs.refl _,⟨SubP.refl _,SubP.refl _,SubP.nilSl rfl,SubP.refl _,SubP.nilSl rfl,SubP.refl _,SubP.refl _,trivial⟩,SubPs.refl _,SubPs.refl _,RowsP.refl _⟩))
theorem cN0 {P : Program} {K : DS → Prop} {p : Prop} {r : Out} (hr : r.sat P K) (hp : p := by first | (simp only [List.length_map,List.length_cons,List.length_nil];omega) | first | exact trivial | omega | exact ini (by omega) (by omega) | (intro hh;simp at hh;exact ini (by omega) (by omega)) | (intro hh;simp at hh ⊢;omega) | (simp at *;omega) | (simp_all;done)) : (Out.need p r).sat P K := ⟨hp,hr⟩
theorem cM0 {P : Program} {K : DS → Prop} {p : Prop} {r : Out} (hr : r.sat P K) (hp : p := by first | (simp only [List.length_append,List.length_map,List.length_cons,List.length_nil];have : (spV ((s :: l).getD x.1 st0)).length + 1 = (spW ((s :: l).getD x.1 st0)).length := rfl;omega) | first | exact trivial | omega | exact ini (by omega) (by omega) | (intro hh;simp at hh;exact ini (by omega) (by omega)) | (intro hh;simp at hh ⊢;omega) | (simp at *;omega) | (simp_all;done)) : (Out.need p r).sat P K := ⟨hp,hr⟩
theorem mD (l : List St) (s : St) (hl : l.length ≤ 1000) (hs : ∀ t ∈ s :: l,StI t) : Fn Tryz.prog 100 [plnD l s] (.sl false 7 (pvS (s :: l)) vlD vl0) := by
 have hL : (s :: l).length = l.length + 1 := rfl;refine yL zN Tryz.func100 rfl rfl rfl rfl rfl rfl ?_;intro w0 s0 mx;refine zJ 100 ?_;refine zJ 200 ?_;refine yV 3 29 7 rfl ?_;refine zB ?_;refine zB (zE zN [8,11] 300 rfl ?_);repeat (first | refine zF ?_ | refine zG ?_ | refine zT (by first | exact qY (by omega) | (simp only [List.length_map,List.length_cons,List.length_nil];omega) | first | exact trivial | omega | exact ini (by omega) (by omega) | (intro hh;simp at hh;exact ini (by omega) (by omega)) | (intro hh;simp at hh ⊢;omega) | (simp at *;omega) | (simp_all;done)) ?_)
 refine zC (zA ?_);refine yO [3,12,13] [200] 310 [(11,.sl false 18 (s :: l) stD st0)] [] ?_;refine ⟨⟨⟨Sub.ownSl rfl,yI⟩,yF,rfl,rfl⟩,?_⟩;refine zQ ?_;refine yB (ι := {i : Nat // i ≤ (s :: l).length}) [11,12] [] 350 (fun x => [(13,.v (.int .i64 x.1)),(3,.own 200 7 ((pvS ((s :: l).take x.1)).map vlD))]) (fun x => [(200,.row 29 7 ((pvS ((s :: l).take x.1)).map vlD).length)]) (fun x => (s :: l).length - x.1) ⟨0,Nat.zero_le _⟩ ?_;refine ⟨⟨yI,yF,rfl,rfl⟩,fun x => ?_⟩;have hk0 : x.1 ≤ (s :: l).length := x.2;refine zJ 400 ?_;refine zB (zS rfl (fun c3 => ?_) (fun c3 => ?_))
 ·have hlt : x.1 < (s :: l).length := by simp at c3 ⊢;omega
  have hsi := st_at hlt hs;have hsl := hsi.l;have hp1 := mB0 (L := (s :: l).take x.1) (fun t ht => hs t (List.mem_of_mem_take ht));rw [List.length_take] at hp1;have hp2 : min x.1 (s :: l).length ≤ 1000 := by omega
  have hp3 := uF0 hsi;refine zK (zA (zB (zQ (zJ 500 ?_))));refine yO [3,5,11,12,13] [200,402] 510 [] [(402,.box 43 (stD ((s :: l).getD x.1 st0)))] ?_;refine ⟨⟨yI,⟨⟨rfl,SubL.same rfl⟩,yF⟩,rfl,rfl⟩,?_⟩;refine zB (zE zN [] 600 rfl ?_);repeat (first | refine zF ?_ | refine zG ?_ | refine cN0 ?_)
  refine zV _ (N_ok (((s :: l).getD x.1 st0).l.length : Nat) (by omega) (by omega)) rfl ?_;repeat (first | refine zF ?_ | refine zG ?_ | refine cN0 ?_)
  refine zC (zA ?_);refine zE zN [] 700 rfl ?_;repeat (first | refine zF ?_ | refine zG ?_ | refine cM0 ?_)
  refine zV _ (StepValues_ok ((s :: l).getD x.1 st0) hsi) rfl ?_;repeat (first | refine zF ?_ | refine zG ?_ | refine cM0 ?_)
  refine zC (zO (zA (yS zN [] 800 ?_)));exact zU ⟨x.1 + 1,by omega⟩ ⟨⟨Sub.int (by push_cast;rfl),Sub.own (by rw [wI0 hlt,List.map_append,List.append_assoc];rfl),yI⟩,⟨⟨rfl,rfl,by rw [wI0 hlt];simp only [List.length_append,List.length_map,List.length_cons,List.length_nil];have : (spW ((s :: l).getD x.1 st0)).length = (spV ((s :: l).getD x.1 st0)).length + 1 := rfl;omega⟩,yF⟩,rfl,rfl⟩ (by show (s :: l).length - (x.1 + 1) < (s :: l).length - x.1;omega)
 ·have hke : x.1 = (s :: l).length := by simp at c3;omega
  refine yE (zZ (yA (zX (zA (zJ 900 ?_)))));refine zM ?_;exact FinV.ret rfl (SubP.ownSl (by rw [List.take_of_length_le (by omega)]))
theorem SameEffect_ok (h a : List Ob) (l : List St) (s : St) (b : List Ob) (l' : List St) (s' : St) (hh : h.length ≤ 2000000) (hl : l.length ≤ 1000) (hl' : l'.length ≤ 1000) (hs : ∀ t ∈ s :: l,StI t) (hs' : ∀ t ∈ s' :: l',StI t) (ha : Skc a (pvS (s :: l))) (hb : Skc b (pvS (s' :: l'))) : Fn Tryz.prog 59 [hpD md h,hpD me a,plnD l s,hpD me b,plnD l' s'] (.v (.bool (kW0 h a l s b l' s'))) := by
 refine yL zN Tryz.func59 rfl rfl rfl rfl rfl rfl ?_;intro w0 s0 mx;refine zJ 100 ?_;refine zJ 200 ?_;refine zB (zW zN [] [[],[0],[0,1],[],[0,1,2,3],(rgN 5),(rgN 6),(rgN 7),(rgN 8),(rgN 6),[0,1,2,3,4,5,9],[0,1,2,3,4,5,9,10],(rgN 12),(rgN 13),(rgN 14),(rgN 15),(rgN 15),(rgN 15),[0,1,2,3,4,5,6,7,8,9,10,11,12,13,14,17],(rgN 19),(rgN 15),(rgN 15),(rgN 15),[0,1,2,3,4,5,6,7,8,9,10,11,12,13,14,15,16,17,18,19,22],(rgN 24),(rgN 25),(rgN 26),(rgN 27)] 300 yQ (by kernel_rfl) rfl ?_);refine zH ?_;refine yM _ (fun hg18 => mD l s hl hs) rfl ?_;refine zH ?_;refine yM _ (fun hg19 => cC a h.length _ ha hh) rfl ?_;refine zH ?_;refine yM _ (fun hg23 => mD l' s' hl' hs') rfl ?_;refine zH ?_;refine yM _ (fun hg24 => cC b h.length _ hb hh) rfl ?_;refine zH ?_;refine zC (zA (zM ?_));exact FinV.ret rfl (SubP.bool (by unfold kW0;simp [Bool.and_assoc]))
theorem vZ (h a : List Ob) (s : St) (b : List Ob) (s' : St) (hh : h.length ≤ 2000000) (hs : StI s) (hs' : StI s') (ha : Skc a (pvS [s])) (hb : Skc b (pvS [s'])) : Fn Tryz.prog 18 [hpD md h,hpD me a,.agg (stD s),hpD me b,.agg (stD s')] (.v (.bool (kW0 h a [] s b [] s'))) := by
 refine yL zN Tryz.func18 rfl rfl rfl rfl rfl rfl ?_;intro w0 s0 mx;refine zJ 100 ?_;refine zB (zE zN [] 200 rfl ?_);refine zH ?_;refine zV _ ((SameEffect_ok h a [] s b [] s' hh (by decide) (by decide) (fun t ht => by rw [List.mem_singleton.1 ht];exact hs) (fun t ht => by rw [List.mem_singleton.1 ht];exact hs') ha hb).args ⟨SubP.refl _,SubP.refl _,SubP.agg ⟨SubP.nilSl rfl,SubPs.refl _⟩,SubP.refl _,SubP.agg ⟨SubP.nilSl rfl,SubPs.refl _⟩,trivial⟩) rfl ?_;refine zH ?_;refine zC (zA (zM ?_));exact FinV.ret rfl (SubP.refl _)
theorem jV0 {v : Vl} (h : jD v = true) : v.nl.length ≤ 128 ∧ v.dl.length ≤ 128 ∧ v.s.size ≤ 4000 := by
 have hz : ∀ {b : Bool} {l : List Nat},zI b l = true → l.length ≤ 128 := fun h => by rw [zI,kS0] at h;rw [h.2];decide
 have hi : ∀ {b : Bool} {l : List Nat},uY b l = true → l.length ≤ 128 := fun h => by
  simp only [uY,Bool.and_eq_true,decide_eq_true_eq] at h;exact h.1
 have he : ∀ {s : ByteArray},emS s = true → s.size ≤ 4000 := fun h => by
  have := of_decide_eq_true h;subst this;decide
 unfold jD at h;repeat' split at h
 all_goals (try simp only [Bool.and_eq_true,decide_eq_true_eq] at h)
 ·exact ⟨hz h.1.1.1,hz h.1.1.2,he h.1.2⟩
 ·exact ⟨hz h.1.1.1,hz h.1.1.2,he h.1.2⟩
 ·exact ⟨hi h.1.1.1,hz h.1.1.2,he h.1.2⟩
 ·have hr := h.1.1.1;simp only [ratS,Bool.and_eq_true] at hr;exact ⟨hi hr.1.1.1,hi hr.1.1.2,he h.1.2⟩
 ·exact ⟨hz h.1.1.1.1,hz h.1.1.1.2,by have := h.2;omega⟩
 ·exact ⟨hz h.1.1.1,hz h.1.1.2,by have := h.2;omega⟩
 ·have hd := h.2;simp only [dotS,Bool.and_eq_true,decide_eq_true_eq] at hd;exact ⟨hz h.1.1.1,hz h.1.1.2,by have := hd.2;omega⟩
 ·exact ⟨hz h.1.1,hz h.1.2,he h.2⟩
 ·cases h
theorem gZ0 {v : Vl} (h : jD v = true) : cV v ≤ 2108 + 10 * v.s.size := by
 have := jV0 h;unfold cV;omega
theorem pA0 (o : Ob) (v : Vl) : cV (fixV o v) = cV v ∧ (fixV o v).s = v.s := by
 unfold fixV;split <;> exact ⟨rfl,rfl⟩
theorem pR0 : ∀ {l : List Vl},(∀ v ∈ l,cV v ≤ 2108 + 10 * v.s.size) → cVs l ≤ 2108 * l.length + 10 * (l.map fun v => v.s.size).sum + 1
 | [],_ => Nat.le_refl _
 | v :: l,h => by
  have h1 := h v List.mem_cons_self;have h2 := pR0 (l := l) fun x hx => h x (List.mem_cons_of_mem _ hx);unfold cVs at h2 ⊢;rw [List.map_cons,List.sum_cons,List.map_cons,List.sum_cons,List.length_cons];omega
theorem xP (f : Nat → Nat) : ∀ n,sumN f n = ((List.range n).map f).sum
 | 0 => rfl
 | n + 1 => by rw [sumN,xP f n,List.range_succ,List.map_append,List.sum_append,List.map_singleton,List.sum_singleton]
theorem mR {α : Type} (g : α → Nat) (d : α) : ∀ l : List α,((List.range l.length).map fun j => g (l.getD j d)).sum = (l.map g).sum
 | [] => rfl
 | x :: l => by
  rw [List.length_cons,List.range_succ_eq_map,List.map_cons,List.sum_cons,List.map_map,List.map_cons,List.sum_cons,← mR g d l];rfl
theorem bytO_eq (o : Ob) : bytO o (kvs o).length = ((kvs o).map fun v => v.s.size).sum := by
 rw [bytO,xP];exact mR (fun v : Vl => v.s.size) vl0 (kvs o)
theorem bN0 : ∀ {l seen : List ByteArray},nmF seen l = 0 → ∀ s ∈ l,uK s = true
 | [],_,_,_,h => by cases h
 | x :: l,seen,h,s,hs => by
  rw [nmF] at h;split at h
  ·cases h
  ·rename_i h1;split at h
   ·cases h
   ·rcases List.mem_cons.1 hs with rfl | hs
    ·simpa using h1
    ·exact bN0 h s hs
theorem gJ {s : ByteArray} (h : uK s = true) : s.size ≤ 24 := by
 simp only [uK,Bool.and_eq_true,Bool.not_eq_true',Bool.or_eq_false_iff,decide_eq_false_iff_not] at h;have := h.1.2;omega
theorem qB0 : ∀ {l : List ByteArray},(∀ s ∈ l,s.size ≤ 24) → (l.map fun s => s.size + 1).sum ≤ 25 * l.length
 | [],_ => Nat.le_refl _
 | s :: l,h => by
  have h1 := h s List.mem_cons_self;have h2 := qB0 (l := l) fun x hx => h x (List.mem_cons_of_mem _ hx);rw [List.map_cons,List.sum_cons,List.length_cons];omega
theorem qC0 {o : Ob} (hs : jM o = 0) (hz : vD o = 0) : o.name.size ≤ 60 := by
 by_cases hc : Lib.contains (jP o.kind).data.toList [110] = true
 ·unfold vD at hz;rw [hc,Bool.true_and] at hz;split at hz
  ·cases hz
  ·rename_i h1;have h1 : xA o = true := by simpa using h1
   unfold xA at h1;split at h1
   ·simp only [dotS,Bool.and_eq_true,decide_eq_true_eq] at h1;have := h1.2;omega
   ·have := gJ h1;omega
 ·unfold jM at hs;split at hs
  ·rename_i h1;have h2 := List.all_eq_true.1 h1 0 (by decide);have e : (lettersB.extract ((0 : Nat) : Int).toNat (((0 : Nat) : Int) + 1).toNat).data.toList = [110] := by decide +kernel
   unfold ltP at h2;rw [e] at h2;have hc : Lib.contains (jP o.kind).data.toList [110] = false := by simpa using hc
   rw [hc] at h2;have h3 : decide (o.name = ⟨#[]⟩) = true := by simpa [jE0] using h2
   have := of_decide_eq_true h3;rw [this];decide
  ·cases hs
theorem wA0 {o : Ob} (hz : vD o = 0) : o.names.length ≤ 200 ∧ o.items.length ≤ 1000 ∧ o.keys.length ≤ 1000 ∧ o.refs.length ≤ 1000 := by
 unfold vD at hz;split at hz
 ·cases hz
 ·split at hz
  ·cases hz
  ·rename_i h2;simp only [Bool.or_eq_true,decide_eq_true_eq,not_or] at h2;obtain ⟨h3,h4⟩ := h2;unfold mx3 at h3;repeat' split at h3
   all_goals omega
theorem order_le {h : List Ob} {o : Ob} {i : Int} (hs : jM o = 0) (ho : uM h o i = true) : o.order.length ≤ 40 := by
 by_cases hk : o.kind = 9
 ·unfold uM at ho;rw [if_neg (fun hh => hh hk)] at ho;simp only [Bool.and_eq_true,decide_eq_true_eq] at ho;rw [ho.2,List.length_append];have : (uQ (cW h o)).1.length ≤ 39 := by
   unfold uQ;repeat' split
   ·exact Nat.zero_le _
   ·exact Nat.zero_le _
   ·exact Nat.zero_le _
   ·show (mgS (cW h o)).1.length ≤ 39;omega
  show 1 + _ ≤ _;omega
 ·rw [(uI0 hs).2.2.2.2 hk];exact Nat.zero_le _
theorem cO_hi {h : List Ob} {o : Ob} {i : Nat} (g : Uho h o i) : cO o ≤ 6704 + 2108 * (o.items.length + o.keys.length + o.refs.length) + 10 * ((kvs o).map fun v => v.s.size).sum := by
 have v := yF0 g.vals;have h1 := qC0 g.shape g.sizes;have h2 := wA0 g.sizes;have h3 := order_le g.shape g.order;have h4 := qB0 fun s hs => gJ (bN0 g.names s hs);have hv : ∀ x ∈ o.keys ++ o.items,cV x ≤ 2108 + 10 * x.s.size := fun x hx => by
  have e := pA0 o x;have := gZ0 (v.ok x hx);rw [e.1,e.2] at this;exact this
 have h5 := pR0 (l := o.keys) fun x hx => hv x (List.mem_append.2 (.inl hx));have h6 := pR0 (l := o.items) fun x hx => hv x (List.mem_append.2 (.inr hx));have h7 : ((kvs o).map fun v => v.s.size).sum = (o.items.map fun v => v.s.size).sum + (o.keys.map fun v => v.s.size).sum := by
  rw [kvs,List.map_append,List.sum_append]
 have hc : cO o = 120 + 10 * o.name.size + (o.names.map fun s => s.size + 1).sum + 23 * o.refs.length + 23 * o.order.length + cVs o.keys + cVs o.items := rfl;rw [hc,h7];omega
theorem bg_ok : (List.range 49).all (fun i => decide (cO (bgO i) ≤ 6704) && (((bgO i).refs.all fun n => decide (0 ≤ n) && decide (n < 49)) && ((bgO i).order.all fun n => decide (0 ≤ n) && decide (n < 49)))) = true := by decide +kernel
theorem pU0 {i : Nat} (hi : i < 49) : cO (bgO i) ≤ 6704 ∧ (∀ n ∈ (bgO i).refs,0 ≤ n ∧ n < 49) ∧ ∀ n ∈ (bgO i).order,0 ≤ n ∧ n < 49 := by
 have h := List.all_eq_true.1 bg_ok i (List.mem_range.2 hi);simp only [Bool.and_eq_true,decide_eq_true_eq,List.all_eq_true] at h;exact ⟨h.1,h.2.1,h.2.2⟩
theorem yW0 (h : List Ob) (i : Nat) : yG h (i : Nat) = h.getD i ob0 := by
 show h.getD ((i : Nat) : Int).toNat ob0 = _;rw [Int.toNat_natCast]
theorem gM {h : List Ob} {n : Int} (hn : qC h n = true) : 0 ≤ n ∧ n < (h.length : Int) := by
 have := zC0 hn;omega
theorem dW0 {h : List Ob} (g : Uh h) (hh : HpIn h) {i : Nat} (hi : i < h.length) : ObC h.length (yG h i) := by
 have hin := hh.at (i : Nat);have hlo := g.lo;by_cases h49 : i < 49
 ·have e := g.lo_at h49;have hb := pU0 h49;rw [e] at hin ⊢;exact ⟨hin,fun hk => absurd hk (by show ¬ (9 : Int) = 18;decide),fun hk => absurd hk (by show ¬ ((9 : Int) = 10 ∨ (9 : Int) = 7);decide),fun n hn => by have := hb.2.1 n hn;omega,fun n hn => by have := hb.2.2 n hn;omega,(fun v hv => by cases hv),(fun v hv => by cases hv)⟩
 ·have u := g.hi_at (by omega) hi;have v := yF0 u.vals;refine ⟨hin,fun hk => ?_,fun _ => (gM v.cls).2,fun n hn => gM (v.refs n hn),fun n hn => gM (v.order n hn),fun x hx => ⟨hin.kv x hx,fun hk => (gM (v.vals x (List.mem_append.2 (.inl hx)) hk)).2⟩,fun x hx => ⟨hin.iv x hx,fun hk => (gM (v.vals x (List.mem_append.2 (.inr hx)) hk)).2⟩⟩;have hst := (uI0 u.shape).2.2.1;by_cases h0 : (yG h i).state = 0
  ·omega
  ·have h1 := v.weak hk h0;rw [yC0 (by omega) hin.st.2] at h1;exact (gM h1).2
theorem mem_obAt {h : List Ob} {o : Ob} (ho : o ∈ h) : ∃ i,i < h.length ∧ o = yG h (i : Nat) := by
 obtain ⟨i,hi,e⟩ := List.getElem_of_mem ho;exact ⟨i,hi,by rw [yW0,List.getD_eq_getElem?_getD,List.getElem?_eq_getElem hi,← e];rfl⟩
theorem kC0 {h : List Ob} (g : Uh h) (hh : HpIn h) : HpC h := fun o ho => by
 obtain ⟨i,hi,rfl⟩ := mem_obAt ho;exact dW0 g hh hi
theorem pS0 (h : List Ob) : cH h = (h.map cO).sum := mR cO ob0 h
theorem pr_sums {h : List Ob} (hp : (qM h).1 = 0) : sumN (nodN h) h.length ≤ 20000 ∧ sumN (bytN h) h.length ≤ 200000 := by
 have g := tJ0 hp;unfold qM at hp;rw [if_neg (by have := g.hi;omega),if_neg (by have := g.lo;omega)] at hp;have hn : (List.range h.length).find? (fun i => !decide (vX h i = 0)) = none := by
  rw [List.find?_range_eq_none];intro i hi;simp [g.code i hi]
 rw [hn] at hp
 dsimp only at hp
 split at hp
 ·cases hp
 ·omega
theorem kM0 {f a b : Nat → Nat} {c : Nat} : ∀ {n : Nat},(∀ i,i < n → f i ≤ c + 2108 * a i + 10 * b i) → ((List.range n).map f).sum ≤ c * n + 2108 * ((List.range n).map a).sum + 10 * ((List.range n).map b).sum
 | 0,_ => Nat.zero_le _
 | n + 1,h => by
  have h1 := kM0 (n := n) fun i hi => h i (by omega);have h2 := h n (by omega);rw [List.range_succ,List.map_append,List.sum_append,List.map_append,List.sum_append,List.map_append,List.sum_append,List.map_singleton,List.map_singleton,List.map_singleton,List.sum_singleton,List.sum_singleton,List.sum_singleton,Nat.mul_succ];omega
theorem jW0 {h : List Ob} (hp : (qM h).1 = 0) : cH h ≤ 80000000 := by
 have g := tJ0 hp;have hs := pr_sums hp;rw [xP,xP] at hs;have h1 : cH h ≤ 6704 * h.length + 2108 * ((List.range h.length).map (nodN h)).sum + 10 * ((List.range h.length).map (bytN h)).sum := by
  refine kM0 fun i hi => ?_;rw [← yW0];by_cases h49 : i < 49
  ·have hb := (pU0 h49).1;rw [g.lo_at h49];omega
  ·have hc := cO_hi (g.hi_at (by omega) hi);have e1 : nodN h i = (yG h i).items.length + (yG h i).keys.length + (yG h i).refs.length := if_neg (by omega);have e2 : bytN h i = bytO (yG h i) (kvs (yG h i)).length := if_neg (by omega);rw [e1,e2,bytO_eq];exact hc
 have := g.hi;omega
theorem kU0 (f : Ob → Nat) : ∀ (h : List Ob) (r : Nat) (o : Ob),((h.set r o).map f).sum ≤ (h.map f).sum + f o
 | [],_,_ => Nat.zero_le _
 | x :: h,0,o => by
  show (((o :: h).map f).sum ≤ _);rw [List.map_cons,List.sum_cons,List.map_cons,List.sum_cons];omega
 | x :: h,r + 1,o => by
  have := kU0 f h r o;show (((x :: h.set r o).map f).sum ≤ _);rw [List.map_cons,List.sum_cons,List.map_cons,List.sum_cons];omega
theorem cH_set (h : List Ob) (r : Nat) (o : Ob) : cH (h.set r o) ≤ cH h + cO o := by
 rw [pS0,pS0];exact kU0 cO h r o
theorem hpC_set {h : List Ob} (hh : HpC h) {r : Nat} {o : Ob} (ho : ObC h.length o) : HpC (h.set r o) := fun x hx => by
 rw [List.length_set];rcases List.mem_or_eq_of_mem_set hx with hx | rfl
 ·exact hh x hx
 ·exact ho
theorem mem_cO {h : List Ob} {o : Ob} (ho : o ∈ h) : cO o ≤ cH h := by
 rw [pS0];induction h with
 | nil => cases ho
 | cons x h ih =>
  rw [List.map_cons,List.sum_cons];rcases List.mem_cons.1 ho with rfl | ho
  ·omega
  ·have := ih ho;omega
theorem mL0 {n : Int} (h0 : -9223372036854775808 ≤ n) (h1 : n ≤ 9223372036854775807) : VlIn (nuV n) ∧ (nuV n).nl.length ≤ 2 := by
 have hl : (nuV n).nl.length ≤ 2 := lim_length_le (k := 2) (by show n.natAbs < _;omega);exact ⟨⟨(by decide : (-9223372036854775808 : Int) ≤ 2),(by decide : (2 : Int) ≤ 9223372036854775807),(by decide : (-9223372036854775808 : Int) ≤ 0),(by decide : (0 : Int) ≤ 9223372036854775807),lim_Dg _,(fun _ h => by cases h),by omega,(by decide : 0 ≤ 2000000),(by decide : ByteArray.empty.size ≤ 2000000)⟩,hl⟩
theorem mM0 {n : Int} (h0 : -9223372036854775808 ≤ n) (h1 : n ≤ 9223372036854775807) : cV (nuV n) ≤ 76 := by
 have h := (mL0 h0 h1).2;have e : cV (nuV n) = 60 + 10 * 0 + 8 * (nuV n).nl.length + 8 * 0 := rfl;omega
theorem tQ0 {N : Nat} {n : Int} (h0 : -9223372036854775808 ≤ n) (h1 : n ≤ 9223372036854775807) : VlC N (nuV n) := ⟨(mL0 h0 h1).1,fun hk => absurd hk (by show ¬ (2 : Int) = 6;decide)⟩
theorem byV_C {N : Nat} {t : ByteArray} (ht : t.size ≤ 2000000) : VlC N (byV t) := ⟨⟨(by decide : (-9223372036854775808 : Int) ≤ 5),(by decide : (5 : Int) ≤ 9223372036854775807),(by decide : (-9223372036854775808 : Int) ≤ 0),(by decide : (0 : Int) ≤ 9223372036854775807),(fun _ h => by cases h),(fun _ h => by cases h),(by decide : 0 ≤ 2000000),(by decide : 0 ≤ 2000000),ht⟩,fun hk => absurd hk (by show ¬ (5 : Int) = 6;decide)⟩
theorem cK (N : Nat) : VlC N vl0 := ⟨dV0,fun hk => absurd hk (by show ¬ (0 : Int) = 6;decide)⟩
theorem zP1 {v : Vl} (h : VlIn v) : cV v ≤ 52000060 := by
 have := h.s;have := h.nn;have := h.dn;unfold cV;omega
structure StC (N : Nat) (s : St) : Prop where
 i : StI s
 t : s.s.size ≤ 2000000
 v : VlC N s.v
 w : VlC N s.w
 l : ∀ x ∈ s.l,VlC N x
 cl : cVs s.l ≤ 300000000
theorem spW_C {N : Nat} {s : St} (h : StC N s) : (∀ x ∈ spW s,VlC N x) ∧ (∀ x ∈ spW s,True) ∧ cVs (spW s) ≤ 450000000 := by
 have h1 := tQ0 (N := N) h.i.k1 h.i.k2;have h2 := tQ0 (N := N) h.i.c1 h.i.c2;have hl := h.i.l;have h3 := tQ0 (N := N) (n := (s.l.length : Nat)) (by omega) (by omega);refine ⟨fun x hx => ?_,fun _ _ => trivial,?_⟩
 ·unfold spW spV at hx;simp only [List.mem_cons] at hx;rcases hx with rfl | rfl | rfl | rfl | rfl | rfl | hx
  ·exact h3
  ·exact h1
  ·exact h2
  ·exact byV_C h.t
  ·exact h.v
  ·exact h.w
  ·exact h.l x hx
 ·have c1 := mM0 h.i.k1 h.i.k2;have c2 := mM0 h.i.c1 h.i.c2;have c3 := mM0 (n := (s.l.length : Nat)) (by omega) (by omega);have c4 : cV (byV s.s) = 60 + 10 * s.s.size + 8 * 0 + 8 * 0 := rfl;have c5 := zP1 h.v.vin;have c6 := zP1 h.w.vin;have ht := h.t;have c7 := h.cl;unfold cVs at c7 ⊢;unfold spW spV;simp only [List.map_cons,List.sum_cons];omega
theorem vZ0 {h : List Ob} {s : St} (hc : HpC h) (hn : h.length ≤ 2000000) (hs : StC h.length s) (hq : cH h ≤ 600000000) : Skc h (pvS [s]) := by
 obtain ⟨h1,_,h3⟩ := spW_C hs;have e : pvS [s] = spW s := by simp [pvS]
 have hl := uF0 hs.i;exact ⟨hc,hn,by rw [e];exact h1,by rw [e];omega,by rw [e];omega⟩
theorem tH {h a : List Ob} {l : List St} {s : St} (hl : h.length ≤ a.length) : kW0 h a l s a l s = true := by
 unfold kW0;have : (h.length : Int) ≤ (a.length : Int) := by omega
 simp [this]
def Gv (h : List Ob) (v : Vl) : Prop := jD v = true ∧ VlC h.length v
theorem bW0 {h : List Ob} {v : Vl} (hi : VlIn v) (hh : hasS h v = true) : Gv h v := by
 refine ⟨?_,hi,fun hk => (gM (xD hh hk)).2⟩;simp only [hasS,Bool.and_eq_true] at hh;exact hh.1
theorem obj_C {h : List Ob} (hc : HpC h) {v : Vl} (hk : (zR h v).kind ≠ 0) : ObC h.length (zR h v) ∧ cO (zR h v) ≤ cH h := by
 obtain ⟨h6,ho,e⟩ := mW (h := h) (v := v) hk;rw [e];have hl := (yZ ho).2;have hm : yG h v.r ∈ h := by
  show h.getD v.r.toNat ob0 ∈ h;rw [List.getD_eq_getElem?_getD,List.getElem?_eq_getElem hl];exact List.getElem_mem _
 exact ⟨hc _ hm,mem_cO hm⟩
theorem tooB_size : tooB.size ≤ 100 := by decide
theorem st_too (N : Nat) : StC N (raS 42 tooB) := ⟨⟨(by decide : (-9223372036854775808 : Int) ≤ 1),(by decide : (1 : Int) ≤ 9223372036854775807),(by decide : (-9223372036854775808 : Int) ≤ 42),(by decide : (42 : Int) ≤ 9223372036854775807),(by decide : 0 ≤ 1000000)⟩,(by have := tooB_size;show tooB.size ≤ _;omega),cK N,cK N,(fun _ h => by cases h),(by decide : cVs [] ≤ 300000000)⟩
theorem cI0 {N : Nat} {v : Vl} (hv : VlC N v) : StC N (vlS v) := ⟨⟨(by decide : (-9223372036854775808 : Int) ≤ 0),(by decide : (0 : Int) ≤ 9223372036854775807),(by decide : (-9223372036854775808 : Int) ≤ 0),(by decide : (0 : Int) ≤ 9223372036854775807),(by decide : 0 ≤ 1000000)⟩,(by decide : ByteArray.empty.size ≤ 2000000),hv,cK N,(fun _ h => by cases h),(by decide : cVs [] ≤ 300000000)⟩
def zD1 : ByteArray := ⟨#[110,97,109,101]⟩
def ordB : ByteArray := ⟨#[111,114,100,101,114]⟩
def nhB : ByteArray := ⟨#[39,32,104,97,115,32,110,111,32,97,116,116,114,105,98,117,116,101,32,39]⟩
def qB : ByteArray := ⟨#[39]⟩
def cqB : ByteArray := ⟨#[99,108,97,115,115,32,39]⟩
def mqB : ByteArray := ⟨#[109,111,100,117,108,101,32,39]⟩
def atB : ByteArray := ⟨#[97,116,116,114,105,98,117,116,101,32,39]⟩
def cnrB : ByteArray := ⟨#[39,32,99,97,110,110,111,116,32,98,101,32,114,101,97,100]⟩
def suB : ByteArray := ⟨#[115,117,112,101,114,32,104,97,115,32,110,111,32,97,116,116,114,105,98,117,116,101,32,39]⟩
def dotB : ByteArray := ⟨#[46]⟩
theorem kbs (a : Array UInt8) : (⟨a⟩ : ByteArray).size = a.size := rfl
def whoS (h : List Ob) (v : Vl) : ByteArray := if (zR h v).kind = 9 then cqB ++ (zR h v).name else if (zR h v).kind = 11 then mqB ++ (zR h v).name else qB ++ (yG h (clA h v)).name
def lkS (h : List Ob) (v : Vl) (s : ByteArray) : St := raS 36 (whoS h v ++ nhB ++ s ++ qB)
def Gc (h : List Ob) (v : Vl) : Prop := VlC h.length v ∧ cV v ≤ 43000
theorem gc_0 (h : List Ob) : Gc h vl0 := ⟨cK _,by show 60 ≤ 43000;omega⟩
theorem zG1 {h : List Ob} {v : Vl} (hv : Gv h v) : Gc h v := ⟨hv.2,by
 have h1 := gZ0 hv.1;have h2 := (jV0 hv.1).2.2;omega⟩
theorem xC0 {h : List Ob} (g : Uh h) (hh : HpIn h) {n : Int} (hn : inH h n) : ∀ x ∈ (yG h n).items,Gc h x := fun x hx => by
 have hC := dW0 g hh (i := n.toNat) hn.2;rw [← xX hn] at hC;refine ⟨hC.items x hx,?_⟩;by_cases h49 : n.toNat < 49
 ·rw [show yG h n = bgO n.toNat from g.lo_at h49] at hx
  cases hx
 ·have u := g.hi_at (by omega) hn.2;rw [← xX hn] at u;have hok := (yF0 u.vals).ok x (List.mem_append.2 (.inr hx));have e := pA0 (yG h n) x;have h1 := gZ0 hok;have h2 := (jV0 hok).2.2;rw [e.1,e.2] at h1;rw [e.2] at h2;omega
theorem zI0 {h : List Ob} {l : List Vl} (hl : ∀ x ∈ l,Gc h x) (k : Nat) : Gc h (l.getD k vl0) := by
 rw [List.getD_eq_getElem?_getD]
 cases hq : l[k]? with
 | none => exact gc_0 h
 | some v => exact hl v (List.mem_of_getElem? hq)
theorem qP0 {h : List Ob} (g : Uh h) (hh : HpIn h) (v : Vl) : ∀ x ∈ (zR h v).items,Gc h x := fun x hx => by
 by_cases hk : v.k = 6 ∧ qC h v.r = true
 ·rw [show zR h v = yG h v.r from if_pos hk] at hx;exact xC0 g hh (yZ hk.2) x hx
 ·rw [show zR h v = ob0 from if_neg hk] at hx
  cases hx
theorem gc_own {h : List Ob} {o : Ob} (hl : ∀ x ∈ o.items,Gc h x) (s : ByteArray) : Gc h (ownV o s) := by
 unfold ownV;split
 ·exact gc_0 h
 ·exact zI0 hl _
theorem zH1 {h : List Ob} (g : Uh h) (hh : HpIn h) {L : List Int} (hL : ∀ r ∈ L,inH h r) (s : ByteArray) : Gc h (fdV h s (fdO h L s)) := by
 cases hf : fdO h L s with
 | none => exact gc_0 h
 | some r => exact gc_own (xC0 g hh (hL r (List.mem_of_find?_eq_some hf))) s
theorem gc_rf {h : List Ob} {n : Int} (hn : inH h n) (hl : h.length ≤ 5000000) : Gc h (rfV n) := by
 obtain ⟨m,rfl⟩ : ∃ m : Nat,n = (m : Nat) := ⟨n.toNat,by have := hn.1;omega⟩;have h2 : m < h.length := by have := hn.2;simpa using this
 exact ⟨⟨⟨(by decide : (-9223372036854775808 : Int) ≤ 6),(by decide : (6 : Int) ≤ 9223372036854775807),(by show -9223372036854775808 ≤ (m : Int);omega),(by show (m : Int) ≤ 9223372036854775807;omega),(fun _ h => by cases h),(fun _ h => by cases h),(by decide : 0 ≤ 2000000),(by decide : 0 ≤ 2000000),(by decide : ByteArray.empty.size ≤ 2000000)⟩,fun _ => by show (m : Int) < h.length;omega⟩,by show 60 ≤ 43000;omega⟩
theorem gc_sp {h : List Ob} (g : Uh h) (hh : HpIn h) {v : Vl} (hv : Gc h v) (s : ByteArray) : Gc h (spS h v s).1 ∧ (∀ x ∈ (spS h v s).2.1,Gc h x) ∧ (spS h v s).2.1.length ≤ 1 := by
 have hn : ∀ x ∈ ([] : List Vl),Gc h x := fun _ hx => by cases hx
 unfold spS;split
 ·exact ⟨gc_0 h,hn,Nat.zero_le _⟩
 ·rename_i hk;have hin := uZ g (v := v) (Classical.not_not.1 hk);have hf := zH1 g hh (L := (yG h (zR h v).cls).order) (fun r hr => ((kW hh g hin).2 r hr).1) s;split
  ·exact ⟨gc_0 h,hn,Nat.zero_le _⟩
  ·split
   ·exact ⟨hf,fun x hx => by rw [List.mem_singleton.1 hx];exact hv,Nat.le_refl _⟩
   ·split
    ·exact ⟨zI0 (qP0 g hh _) 0,hn,Nat.zero_le _⟩
    ·split
     ·exact ⟨zI0 (qP0 g hh _) 0,fun x hx => by rw [List.mem_singleton.1 hx];exact gc_rf hin (by have := g.hi;omega),Nat.le_refl _⟩
     ·exact ⟨hf,hn,Nat.zero_le _⟩
structure Eg (h h' : List Ob) (s : St) : Prop where
 len : h.length ≤ h'.length
 st : StI s
 sk : Skc h' (pvS [s])
theorem tF0 {h : List Ob} {l : List Vl} (hl : ∀ x ∈ l,Gc h x) : cVs l ≤ 43000 * l.length + 1 := by
 induction l with
 | nil => exact Nat.le_refl _
 | cons v l ih =>
  have h1 := (hl v List.mem_cons_self).2;have h2 := ih fun x hx => hl x (List.mem_cons_of_mem _ hx);unfold cVs at h2 ⊢;rw [List.map_cons,List.sum_cons,List.length_cons,Nat.mul_succ];omega
theorem st_vlc {h : List Ob} {v : Vl} (hv : VlC h.length v) : StC h.length (vlS v) := cI0 hv
theorem bF0 {h : List Ob} {f : Vl} {l : List Vl} (hf : Gc h f) (hl : ∀ x ∈ l,Gc h x) (h9 : l.length ≤ 1000) : StC h.length (caS f l) := by
 have hc := tF0 hl;exact ⟨⟨(by decide : (-9223372036854775808 : Int) ≤ 2),(by decide : (2 : Int) ≤ 9223372036854775807),(by decide : (-9223372036854775808 : Int) ≤ 0),(by decide : (0 : Int) ≤ 9223372036854775807),(by show l.length ≤ 1000000;omega)⟩,(by show ByteArray.empty.size ≤ 2000000;decide),cK _,hf.1,fun x hx => (hl x hx).1,by
  show cVs l ≤ 300000000;have : 43000 * l.length ≤ 43000 * 1000 := Nat.mul_le_mul_left _ h9;omega⟩
theorem kP0 {N : Nat} {s : ByteArray} (hs : s.size ≤ 2000000) : StC N (raS 36 s) := ⟨⟨(by decide : (-9223372036854775808 : Int) ≤ 1),(by decide : (1 : Int) ≤ 9223372036854775807),(by decide : (-9223372036854775808 : Int) ≤ 36),(by decide : (36 : Int) ≤ 9223372036854775807),(by decide : 0 ≤ 1000000)⟩,hs,cK N,cK N,(fun _ h => by cases h),(by decide : 1 ≤ 300000000)⟩
section
variable {h : List Ob} (g : Uh h) (hh : HpIn h) (hp : (qM h).1 = 0)
include g hh hp
theorem pC {s : St} (hs : StC h.length s) : Eg h h s := by
 have hq := jW0 hp;exact ⟨Nat.le_refl _,hs.i,vZ0 (kC0 g hh) hh.len hs (by omega)⟩
end
theorem cY {h : List Ob} (g : Uh h) {n : Int} (hn : inH h n) : (yG h n).name.size ≤ 700 := by
 by_cases h49 : n.toNat < 49
 ·rw [show yG h n = bgO n.toNat from g.lo_at h49];have h1 := (pU0 h49).1;have h2 : cO (bgO n.toNat) = 120 + 10 * (bgO n.toNat).name.size + ((bgO n.toNat).names.map fun s => s.size + 1).sum + 23 * (bgO n.toNat).refs.length + 23 * (bgO n.toNat).order.length + cVs (bgO n.toNat).keys + cVs (bgO n.toNat).items := rfl;omega
 ·have u := g.hi_at (i := n.toNat) (by omega) hn.2;rw [← xX hn] at u;have := qC0 u.shape u.sizes;omega
theorem tM {h : List Ob} (g : Uh h) (v : Vl) : (zR h v).name.size ≤ 700 := by
 by_cases hk : v.k = 6 ∧ qC h v.r = true
 ·rw [show zR h v = yG h v.r from if_pos hk];exact cY g (yZ hk.2)
 ·rw [show zR h v = ob0 from if_neg hk];exact Nat.zero_le _
theorem lk_C {h : List Ob} (g : Uh h) {v : Vl} (hv : hasS h v = true) {s : ByteArray} (hs : s.size ≤ 100) (N : Nat) : StC N (lkS h v s) := by
 have h1 := tM g v;have h2 := cY g (wO g (gU0 g hv));have hw : (whoS h v).size ≤ 1000 := by
  have q1 : qB.size ≤ 100 := by decide
  have q2 : cqB.size ≤ 100 := by decide
  have q3 : mqB.size ≤ 100 := by decide
  unfold whoS;repeat' split
  all_goals rw [ByteArray.size_append];omega
 refine kP0 ?_;have q1 : qB.size ≤ 100 := by decide
 have q4 : nhB.size ≤ 100 := by decide
 rw [ByteArray.size_append,ByteArray.size_append,ByteArray.size_append];omega
section
variable {h : List Ob} (g : Uh h) (hh : HpIn h) (hp : (qM h).1 = 0)
include g hh hp
end
variable {md me : Bool}
theorem tZ (c : Int) (s : ByteArray) : Fn Tryz.prog 44 [.v (.int .i64 c),.v (.string s)] (.agg (stD (raS c s))) := by
 refine yL zN Tryz.func44 rfl rfl rfl rfl rfl rfl ?_;intro w0 s0 mx;refine zJ 100 ?_;refine zJ 200 ?_;refine zM ?_;exact FinV.ret rfl (SubP.agg (by repeat (first | exact trivial | exact SubP.refl _ | exact SubP.nilSl rfl | refine ⟨?_,?_⟩)))
theorem qX (s : ByteArray) : Fn Tryz.prog 34 [.v (.string s)] (.agg (stD (raS 36 s))) := by
 refine yL zN Tryz.func34 rfl rfl rfl rfl rfl rfl ?_;intro w0 s0 mx;refine zJ 100 ?_;refine zB (zE zN [] 200 rfl ?_);refine zH ?_;refine zV _ (tZ _ _) rfl ?_;refine zH ?_;refine zC (zA (zM ?_));exact FinV.ret rfl (SubP.refl _)
theorem bR (f : Vl) (l : List Vl) : Fn Tryz.prog 40 [.agg (vlD f),vsD l] (.agg (stD (caS f l))) := by
 refine yL zN Tryz.func40 rfl rfl rfl rfl rfl rfl ?_;intro w0 s0 mx;refine zJ 100 ?_;refine zJ 200 ?_;refine zM ?_;exact FinV.ret rfl (SubP.agg (by repeat (first | exact trivial | exact SubP.refl _ | exact SubP.nilSl rfl | refine ⟨?_,?_⟩)))
theorem pL (h : List Ob) (v : Vl) (s : ByteArray) (l : List Vl) (hh : HpIn h) (g : Uh h) (hv : v.k = 6 → qC h v.r = true) (hl : l.length ≤ 1000000) : Fn Tryz.prog 41 [hpD md h,.agg (vlD v),.v (.string s),vsD l] (.tup [.agg (stD (caS (spS h v s).1 ((spS h v s).2.1 ++ l))),.v (.bool (spS h v s).2.2)]) := by
 refine yL zN Tryz.func41 rfl rfl rfl rfl rfl rfl ?_;intro w0 s0 mx;refine zJ 100 ?_;refine zB (zE zN [] 200 rfl ?_);refine zH ?_;refine zV _ (Special_ok _ _ _ (by first | assumption | omega | (simp_all;done)) (by first | assumption | omega | (simp_all;done)) (by first | assumption | omega | (simp_all;done))) rfl ?_;refine zH ?_;refine zC (zA ?_);refine zB (zW zN [25] mK11 300 yQ (by kernel_rfl) rfl ?_);refine zH ?_;refine uB _ _ _ ((cG [(spS h v s).2.1,l] (by have := cJ0 h v s;rw [tE0,List.length_append];omega) (by show 2 ≤ 1000;omega)).args ⟨SubP.slrSl rfl,trivial⟩) ?_;refine zH ?_;refine zV _ ((bR _ ((spS h v s).2.1 ++ l)).args ⟨SubP.refl _,SubP.ownSl (by simp [ctL]),trivial⟩) rfl ?_;refine zH ?_;refine zC (zA (zM ?_));exact FinV.ret rfl (SubP.refl _)
theorem pN0 : qB.size = 1 ∧ nhB.size = 20 ∧ cqB.size = 7 ∧ mqB.size = 8 ∧ atB.size = 11 ∧ cnrB.size = 16 ∧ suB.size = 24 ∧ dotB.size = 1 := by decide
theorem vC {P : Program} {K : DS → Prop} {p : Prop} {r : Out} (hr : r.sat P K) (hp : p := by first | (simp only [ByteArray.size_append,kbs,List.size_toArray,List.length_cons,List.length_nil];omega) | first | exact trivial | omega | exact ini (by omega) (by omega) | (intro hh;simp at hh;exact ini (by omega) (by omega)) | (intro hh;simp at hh ⊢;omega) | (simp at *;omega) | (simp_all;done)) : (Out.need p r).sat P K := ⟨hp,hr⟩
theorem atLacks_ok (h : List Ob) (v : Vl) (s : ByteArray) (g : Uh h) (c : Cf h v) (hs : s.size ≤ 2000000) (h9 : ¬ (zR h v).kind = 9) (h11 : ¬ (zR h v).kind = 11) : Fn Tryz.prog 48 [hpD md h,.agg (vlD v),.v (.string s)] (.agg (stD (lkS h v s))) := by
 have hz := pN0;have hnz := cY g (wO g c);refine yL zN Tryz.func48 rfl rfl rfl rfl rfl rfl ?_;intro w0 s0 mx;refine zB (zE zN [] 100 rfl ?_);repeat (first | refine zF ?_ | refine zG ?_ | refine vC ?_)
 refine zC (zA ?_);refine zB (zE zN [] 200 rfl ?_);repeat (first | refine zF ?_ | refine zG ?_ | refine vC ?_)
 refine zV _ (gN h v g c) rfl ?_;repeat (first | refine zF ?_ | refine zG ?_ | refine vC ?_)
 refine zV _ (qX _) rfl ?_;repeat (first | refine zF ?_ | refine zG ?_ | refine vC ?_)
 refine zC (zA (zM ?_));rw [show lkS h v s = raS 36 (qB ++ (yG h (clA h v)).name ++ nhB ++ s ++ qB) by unfold lkS whoS;rw [if_neg h9,if_neg h11]];exact FinV.ret rfl (SubP.refl _)
theorem kZ (s t : ByteArray) (hs : s.size ≤ 2000000) (ht : t.size ≤ 2000000) : Fn Tryz.prog 53 [.v (.string s),.v (.string t)] (.agg (stD (raS 36 (atB ++ s ++ ⟨#[39,32,99,97,110,110,111,116,32,98,101,32]⟩ ++ t)))) := by
 have hz := pN0;have hz2 : (⟨#[39,32,99,97,110,110,111,116,32,98,101,32]⟩ : ByteArray).size = 12 := by decide
 refine yL zN Tryz.func53 rfl rfl rfl rfl rfl rfl ?_;intro w0 s0 mx;refine zB (zE zN [] 100 rfl ?_);repeat (first | refine zF ?_ | refine zG ?_ | refine vC ?_)
 refine zC (zA ?_);refine zB (zE zN [] 200 rfl ?_);repeat (first | refine zF ?_ | refine zG ?_ | refine vC ?_)
 refine zV _ (wL _ _) rfl ?_;repeat (first | refine zF ?_ | refine zG ?_ | refine vC ?_)
 refine zC (zA (zM ?_));exact FinV.ret rfl (SubP.refl _)
theorem Lacks_ok (h : List Ob) (v : Vl) (s : ByteArray) (g : Uh h) (c : Cf h v) (hs : s.size ≤ 2000000) : Fn Tryz.prog 58 [hpD md h,.agg (vlD v),.v (.string s)] (.agg (stD (lkS h v s))) := by
 have hz := pN0;have hnz := cY g (wO g c);have hoz := tM g v;have hz2 : (⟨#[32,104,97,115,32,110,111,32,97,116,116,114,105,98,117,116,101,32,39]⟩ : ByteArray).size = 19 := by decide
 refine yL zN Tryz.func58 rfl rfl rfl rfl rfl rfl ?_;intro w0 s0 mx;refine zB (zE zN [] 100 rfl ?_);repeat (first | refine zF ?_ | refine zG ?_ | refine vC ?_)
 refine zC (zA ?_);refine zB (zE zN [] 200 rfl ?_);repeat (first | refine zF ?_ | refine zG ?_ | refine vC ?_)
 refine zV _ (xN h v g c) rfl ?_;repeat (first | refine zF ?_ | refine zG ?_ | refine vC ?_)
 refine zC (zA (zB ?_));refine zB (zE zN [] 300 rfl ?_);repeat (first | refine zF ?_ | refine zG ?_ | refine vC ?_)
 refine zV _ (jJ _ _) rfl ?_;repeat (first | refine zF ?_ | refine zG ?_ | refine vC ?_)
 refine zC (zA ?_);refine zB (zE zN [] 400 rfl ?_);repeat (first | refine zF ?_ | refine zG ?_ | refine vC ?_)
 refine zC (zA (zQ ?_));refine zB (zE zN [] 500 rfl ?_);repeat (first | refine zF ?_ | refine zG ?_ | refine vC ?_)
 refine zC (zA (yD (fun c4 => ?_) (fun c4 => ?_)))
 ·
  refine zE zN [] 600 rfl ?_;repeat (first | refine zF ?_ | refine zG ?_ | refine vC ?_)
  refine zC (zO (zA ?_));refine zB (zE zN [] 900 rfl ?_);repeat (first | refine zF ?_ | refine zG ?_ | refine vC ?_)
  refine zV _ (wL _ _) rfl ?_;repeat (first | refine zF ?_ | refine zG ?_ | refine vC ?_)
  refine zC (zA (zM ?_));have key : ∀ w : ByteArray,w ++ qB ++ ⟨#[32,104,97,115,32,110,111,32,97,116,116,114,105,98,117,116,101,32,39]⟩ ++ s ++ qB = w ++ nhB ++ s ++ qB := fun w => by
   rw [ByteArray.append_assoc (a := w)];rfl
  rw [show lkS h v s = raS 36 ((cqB ++ (zR h v).name) ++ nhB ++ s ++ qB) by unfold lkS whoS;rw [if_pos c4]];rw [← key];exact FinV.ret rfl (SubP.refl _)
 ·
  refine zB (zE zN [] 700 rfl ?_);repeat (first | refine zF ?_ | refine zG ?_ | refine vC ?_)
  refine zC (zA (yD (fun c6 => ?_) (fun c6 => ?_)))
  ·
   refine zE zN [] 800 rfl ?_;repeat (first | refine zF ?_ | refine zG ?_ | refine vC ?_)
   refine zC (zO (zA ?_));refine zB (zE zN [] 900 rfl ?_);repeat (first | refine zF ?_ | refine zG ?_ | refine vC ?_)
   refine zV _ (wL _ _) rfl ?_;repeat (first | refine zF ?_ | refine zG ?_ | refine vC ?_)
   refine zC (zA (zM ?_));have key : ∀ w : ByteArray,w ++ qB ++ ⟨#[32,104,97,115,32,110,111,32,97,116,116,114,105,98,117,116,101,32,39]⟩ ++ s ++ qB = w ++ nhB ++ s ++ qB := fun w => by
    rw [ByteArray.append_assoc (a := w)];rfl
   rw [show lkS h v s = raS 36 ((mqB ++ (zR h v).name) ++ nhB ++ s ++ qB) by unfold lkS whoS;rw [if_neg c4,if_pos c6]];rw [← key];exact FinV.ret rfl (SubP.refl _)
  ·
   refine zK (zO (zA ?_));refine zB (zE zN [] 900 rfl ?_);repeat (first | refine zF ?_ | refine zG ?_ | refine vC ?_)
   refine zV _ (wL _ _) rfl ?_;repeat (first | refine zF ?_ | refine zG ?_ | refine vC ?_)
   refine zC (zA (zM ?_));have key : ∀ w : ByteArray,w ++ qB ++ ⟨#[32,104,97,115,32,110,111,32,97,116,116,114,105,98,117,116,101,32,39]⟩ ++ s ++ qB = w ++ nhB ++ s ++ qB := fun w => by
    rw [ByteArray.append_assoc (a := w)];rfl
   rw [show lkS h v s = raS 36 ((qB ++ (yG h (clA h v)).name) ++ nhB ++ s ++ qB) by unfold lkS whoS;rw [if_neg c4,if_neg c6]];rw [← key];exact FinV.ret rfl (SubP.refl _)
variable {md me : Bool}
variable {md me : Bool}
variable {md me : Bool}
theorem kF {h : List Ob} (g : Uh h) {a : Vl} (hk : (zR h a).kind = 12) : (zR h a).items.length = 3 := by
 obtain ⟨h6,ho,e⟩ := mW (h := h) (v := a) (by omega);have hin := yZ ho;rw [e] at hk ⊢;by_cases h49 : a.r.toNat < 49
 ·rw [show yG h a.r = bgO a.r.toNat from g.lo_at h49] at hk;have h9 : (bgO a.r.toNat).kind = 9 := rfl;omega
 ·have u := g.hi_at (i := a.r.toNat) (by omega) hin.2;rw [← xX hin] at u;have hs := (uI0 u.shape).1;rw [gG 12 51 (by decide +kernel) hk] at hs;have : IntKind.i64.wrap (IntKind.u8.wrap (dZ (jP 12) - 48)) = 3 := by decide +kernel
  omega
variable {md me : Bool}
variable {md me : Bool}
variable {md me : Bool}
def argN : ByteArray := ⟨#[97,114,103,115]⟩
def uX : ByteArray := ⟨#[99,97,117,115,101]⟩
def ctxN : ByteArray := ⟨#[99,111,110,116,101,120,116]⟩
def uV : ByteArray := ⟨#[116,114,97,99,101]⟩
def dX : ByteArray := ⟨#[109,101,109,98,101,114,115]⟩
def nwaB : ByteArray := ⟨#[39,32,104,97,115,32,110,111,32,119,114,105,116,97,98,108,101,32,97,116,116,114,105,98,117,116,101,115]⟩
def cnwB : ByteArray := ⟨#[39,32,99,97,110,110,111,116,32,98,101,32,119,114,105,116,116,101,110]⟩
def cndB : ByteArray := ⟨#[39,32,99,97,110,110,111,116,32,98,101,32,100,101,108,101,116,101,100]⟩
def onWr : ByteArray := ⟨#[111,110,95,119,114,105,116,101]⟩
def onEr : ByteArray := ⟨#[111,110,95,101,114,97,115,101]⟩
def wokS (h : List Ob) (v : Vl) : Bool := decide ((zR h v).kind = 10) || decide ((zR h v).kind = 11) || (decide ((zR h v).kind = 9) && !decide (v.r < 49))
def fixS (h : List Ob) (v : Vl) (s : ByteArray) : Bool :=
 if (zR h v).kind = 9 then decide (s = zD1) || decide (s = ordB)
 else if (zR h v).kind = 10 then (if s = argN ∨ s = uX ∨ s = ctxN ∨ s = uV then hasB (yG h (zR h v).cls).order 28 else if s = dX then hasB (yG h (zR h v).cls).order 48 else false)
 else false
def chO (h : List Ob) (v : Vl) (s : ByteArray) : Option Int := fdO h (yG h (zR h v).cls).order s
def chV (h : List Ob) (v : Vl) (s : ByteArray) : Vl := fdV h s (chO h v s)
def chF (h : List Ob) (v : Vl) (s : ByteArray) (bar : ByteArray) (fin : St × List Ob) : St × List Ob := if fixS h v s = true then (raS 36 (atB ++ s ++ bar),h) else fin
def chS (h : List Ob) (v : Vl) (s : ByteArray) (k : Nat) (bar hook : ByteArray) (args : List Vl) (fin : St × List Ob) : St × List Ob :=
 if wokS h v = false then (raS 36 (qB ++ (yG h (clA h v)).name ++ nwaB),h)
 else if (zR h v).kind = 10 ∧ (chO h v s).isSome = true ∧ (zR h (chV h v s)).kind = 12 ∧ ((zR h (chV h v s)).items.getD k vl0).k = 0 then (raS 36 (atB ++ s ++ bar),h)
 else if (zR h v).kind = 10 ∧ (chO h v s).isSome = true ∧ (zR h (chV h v s)).kind = 12 then (caS ((zR h (chV h v s)).items.getD k vl0) args,h)
 else if (zR h v).kind = 10 ∧ (chO h v s).isSome = true ∧ (spS h (chV h v s) hook).2.2 = true then (caS (spS h (chV h v s) hook).1 ((spS h (chV h v s) hook).2.1 ++ args),h)
 else chF h v s bar fin
def jL (o : Ob) : Ob := if o.kind = 9 then { o with state := o.state + 1 } else o
def qD (o : Ob) (s : ByteArray) (w : Vl) : Ob := if ixI o.names s < 0 then { o with names := o.names ++ [s],items := o.items ++ [w] } else { o with items := o.items.set (ixI o.names s).toNat w }
def cutO (o : Ob) (s : ByteArray) : Ob := { o with names := o.names.eraseIdx (ixI o.names s).toNat,items := o.items.eraseIdx (ixI o.names s).toNat }
def setF (h : List Ob) (v : Vl) (s : ByteArray) (w : Vl) : St × List Ob := if ixI (zR h v).names s < 0 ∧ 200 ≤ (zR h v).names.length then (raS 42 tooB,h) else (vlS vl0,h.set v.r.toNat (jL (qD (zR h v) s w)))
def delF (h : List Ob) (v : Vl) (s : ByteArray) : St × List Ob := if ixI (zR h v).names s < 0 then (lkS h v s,h) else (vlS vl0,h.set v.r.toNat (jL (cutO (zR h v) s)))
def setS (h : List Ob) (v : Vl) (s : ByteArray) (w : Vl) : St × List Ob := chS h v s 1 cnwB onWr [v,w] (setF h v s w)
def delS (h : List Ob) (v : Vl) (s : ByteArray) : St × List Ob := chS h v s 2 cndB onEr [v] (delF h v s)
structure Wr (h : List Ob) (v : Vl) : Prop where
 k6 : v.k = 6
 ob : qC h v.r = true
 inr : inH h v.r
 eo : zR h v = yG h v.r
 hi : 49 ≤ v.r.toNat
 nl : (zR h v).names.length ≤ 200
 il : (zR h v).items.length ≤ 1000
 ni : (zR h v).names.length = (zR h v).items.length
 st : 0 ≤ (zR h v).state ∧ (zR h v).state ≤ 1099511627776
theorem gG0 {h : List Ob} (g : Uh h) {v : Vl} (hw : wokS h v = true) : Wr h v := by
 unfold wokS at hw;simp only [Bool.or_eq_true,Bool.and_eq_true,decide_eq_true_eq,Bool.not_eq_true',decide_eq_false_iff_not] at hw;obtain ⟨h6,ho,e⟩ := mW (h := h) (v := v) (by omega);have hin := yZ ho;have h49 : ¬ v.r.toNat < 49 := fun hl => by
  have hb : (zR h v).kind = 9 := by rw [e,show yG h v.r = bgO v.r.toNat from g.lo_at hl];rfl
  have hin1 := hin.1;omega
 have u := g.hi_at (i := v.r.toNat) (by omega) hin.2;rw [← xX hin] at u;have hz := wA0 u.sizes;have hs := uI0 u.shape;rw [e] at hw;refine ⟨h6,ho,hin,e,by omega,by rw [e];exact hz.1,by rw [e];exact hz.2.1,?_,?_⟩
 ·have h1 := hs.1;unfold cntS at h1;rw [e];rcases hw with (hk | hk) | hk
  ·rw [hk,if_neg (by decide +kernel),if_neg (by decide +kernel),if_pos (by decide +kernel)] at h1;omega
  ·rw [hk,if_neg (by decide +kernel),if_neg (by decide +kernel),if_pos (by decide +kernel)] at h1;omega
  ·rw [hk.1,if_neg (by decide +kernel),if_neg (by decide +kernel),if_pos (by decide +kernel)] at h1;omega
 ·rw [e];refine ⟨hs.2.2.1,Int.le_trans hs.2.2.2.1 ?_⟩;unfold xE;repeat' split
  all_goals first | decide | omega
theorem Stp.frzD {w w' : World} {s : Sb} {g g' : Gh} {k sz : Nat} {e : TypeId} {c : Own} {rows : List (List PV)} (S : Stp w s g [(k,c)] w' s g' [(k,.mrow e sz rows)]) :
  ∃ s',(∀ v,(TV.mo k rows.length).P w' s g' v → (TV.own k sz rows).P w' s' g' v) ∧ Stp w s g [(k,c)] w' s' g' [(k,.row e sz rows.length)] := by
 have hok : Ok1 w' s g' k (.mrow e sz rows) := S.ok k _ (by rw [zY,if_pos rfl]);obtain ⟨p,hp,hrow,hmo⟩ := hok.freeze;have hpb : ∀ B o,p B o → w.heap.size ≤ B ∨ ∃ k0 c0,fnd k0 [(k,c)] = some c0 ∧ blk g k0 c0 = some B := fun B o h => S.nb k (.mrow e sz rows) B (by rw [zY,if_pos rfl]) (hp B o h).1;have hx : Ex w' s w' (s.add p) := ⟨fun _ _ h => .inl h,fun _ _ _ => rfl,fun _ _ h => .inl h⟩;refine ⟨s.add p,hmo,S.ex.trans hx,fun B o h => h.elim (S.lt B o) fun h => hok.lt (hp B o h).1,S.gle,fun j h => S.same j ?_,S.os,S.tape,S.output,S.size,S.block,fun B o h => h.elim (S.st B o) fun h => .inr (hpb B o h),fun B o h => h.elim (S.sst B o) fun h => .inr (hpb B o h),fun j d h => ?_,fun j d N h hb => ?_,fun j j' d d' N h h' hne => ?_,fun j d h => ?_⟩
 ·rw [zY] at h ⊢;by_cases e : k = j
  ·simp [e] at h
  ·simp only [e,if_false] at h ⊢;rfl
 ·obtain ⟨rfl,rfl⟩ := jC h;exact hrow
 ·obtain ⟨rfl,rfl⟩ := jC h;exact S.nb j (.mrow e sz rows) N (by rw [zY,if_pos rfl]) hb
 ·obtain ⟨rfl,rfl⟩ := jC h;obtain ⟨rfl,rfl⟩ := jC h';exact absurd rfl hne
 ·obtain ⟨rfl,rfl⟩ := jC h;exact ⟨.row e sz rows.length,by rw [zY,if_pos rfl]⟩
theorem sl_cutD {w : World} {s : Sb} {sz n cap : Nat} {a : Option Addr} {rows : List (List PV)} (h : (PV.sl false sz rows).p w s (.slice a rows.length cap)) (hn : n ≤ rows.length) : (PV.sl false sz (rows.take n)).p w s (.slice a n cap) := by
 obtain ⟨a',cap',e,h2,h3,h4,h5⟩ := h
 cases e;refine ⟨a,cap,by rw [List.length_take,Nat.min_eq_left hn],by rw [List.length_take];omega,h3,fun row hr => h4 row (List.mem_of_mem_take hr),fun i row hi => ?_⟩;rw [List.getElem?_take] at hi;by_cases hin : i < n
 ·rw [if_pos hin] at hi;exact h5 i row hi
 ·rw [if_neg hin] at hi;cases hi
theorem qV0 {β : Type} {sz : Nat} : ∀ (rows : List (List β)) (i : Nat),(∀ r ∈ rows,r.length = sz) → (rows.take i).flatten = rows.flatten.take (i * sz)
 | [],i,_ => by simp
 | r :: rows,0,_ => by simp
 | r :: rows,i + 1,h => by
  have hr := h r (by simp);have ih := qV0 rows i (fun x hx => h x (by simp [hx]));rw [List.take_succ_cons,List.flatten_cons,List.flatten_cons,ih,Nat.succ_mul,← hr,List.take_append,List.take_of_length_le (l := r) (by omega),show i * r.length + r.length - r.length = i * r.length by omega]
theorem qW0 {β : Type} {sz : Nat} : ∀ (rows : List (List β)) (i : Nat),(∀ r ∈ rows,r.length = sz) → (rows.drop i).flatten = rows.flatten.drop (i * sz)
 | [],i,_ => by simp
 | r :: rows,0,_ => by simp
 | r :: rows,i + 1,h => by
  have hr := h r (by simp);have ih := qW0 rows i (fun x hx => h x (by simp [hx]));rw [List.drop_succ_cons,List.flatten_cons,ih,Nat.succ_mul,← hr,List.drop_append,List.drop_of_length_le (l := r) (by omega),show i * r.length + r.length - r.length = i * r.length by omega,List.nil_append]
theorem yM0 {P : Program} {ops : Array Oper} {o : Oper} {a : Act} {w : World} {K : Act → World → Prop} {Q : Exit → Act → World → Prop} {E : Prop}
  (hg : o.guard = none) (s x : Operand) (t : TypeId) (hop : o.op = Op.call { callee := Callee.builtin Builtin.append,args := #[s,x],argTypes := #[t,t] })
  (e : TypeId) (i : TypeInfo) (size : Nat) (h1 : P.underlying t = some (.slice e)) (h2 : P.info? e = some i) (h4 : i.size = size)
  (b n cap : Nat) (hs : a.eval s = .slice (some ⟨b,0,none⟩) n cap) (cur : Array Value) (hB : CellB w b cur e)
  (ad : Addr) (m c : Nat) (news : List Value) (hx : a.eval x = .slice (some ad) m c) (hn : news.length = m * size) (hc : ∀ j u,news[j]? = some u → w.cell? (ad.add j) = some u) (h1c : ∀ u ∈ news,u.oneCell' = true)
  (hroom : n + m ≤ cap) (hfit : n * size + news.length ≤ cur.size)
  (hK : K (a.put o.dst (.slice (some ⟨b,0,none⟩) (n + m) cap)) (w.setRow b (cur.toList.take (n * size) ++ news ++ cur.toList.drop (n * size + news.length)).toArray)) :
  if Region.wanted o (yielded ops a.tmps) = true then Oper.wp P o a w K Q else E := by
 have hw : Region.wanted o (yielded ops a.tmps) = true := by simp [Region.wanted,hg]
 rw [if_pos hw];subst h4;have hrun := jR (P := P) w t o.type e i h1 h2 b n cap cur hB ad m c news hn hc h1c hroom hfit;generalize w.setRow b (cur.toList.take (n * i.size) ++ news ++ cur.toList.drop (n * i.size + news.length)).toArray = w2 at hrun hK;unfold Oper.wp;simp [execOp,hop,resolve,invoke,builtin,hs,hx,hrun,Result.andThen];exact hK
theorem tI {P : Program} (w : World) (t e ty : TypeId) (z : Value) (ht : P.underlying t = some (.slice e)) (hv : ∀ w,(zeroValue e).run P w = .ok z w) (b o c : Nat) (cur : Array Value) (hB : CellB w b cur e) (hfit : o + z.cells.size ≤ cur.size) (h1 : ∀ v ∈ z.cells.toList,v.oneCell' = true) :
  (Builtin.clear_ #[t] ty #[.slice (some ⟨b,o,none⟩) 1 c]).run P w = .ok (.tuple #[]) (w.setRow b (cur.toList.take o ++ z.cells.toList ++ cur.toList.drop (o + z.cells.size)).toArray) := by
 have hzc : (Builtin.zeroCells z.cells 1).toList = z.cells.toList := by
  simp only [Builtin.zeroCells];apply List.ext_getElem
  ·simp
  ·intro i h1 h2;simp at h1 h2;simp [Nat.mod_eq_of_lt h1];exact getElem!_pos z.cells i h1
 obtain ⟨fz,hg,hfz⟩ := hB;have hst := qJ P b o e fz z.cells.toList 0 cur w hg hfz (by simpa using hfit) h1;simp only [Nat.add_zero,Array.length_toList] at hst;simp [Builtin.clear_,run_underlying ht,hv,hzc,hst]
theorem jT0 (l : List ByteArray) (hl : l.length ≤ 2000000) : FnG Tryz.prog 27 [ssD l] [] (.mo 0 l.length) [.mrow 9 1 (.map l sD ByteArray.empty)] := by
 refine vL zN Tryz.func27 rfl rfl rfl rfl rfl rfl rfl ?_;intro w0 s0 mx;refine zB (zE zN [] 100 rfl ?_);repeat (first | refine zF ?_ | refine zG ?_ | refine zT (by exact qY hl) ?_)
 refine zC (zA (zB (zB ?_)));refine jZ Tryz.underlying33 rfl rfl rfl fun c hc => ?_;refine zA (zS rfl (fun c1 => ?_) (fun c1 => ?_))
 ·
  refine zB (zE zN [] 300 rfl ?_);repeat (first | refine zF ?_ | refine zG ?_ | refine zT (by exact qY hl) ?_)
  refine zC (zA ?_);refine yV 2 9 1 rfl ?_;refine gQ 300 rfl ?_;refine zM (zL ?_);obtain rfl := hc c1;exact FinH.ret 300 rfl rfl (Sub.refl _) ⟨SubO.mr rfl,trivial⟩
 ·
  refine zK (zA ?_);refine zB (zE zN [1005] 400 rfl ?_);repeat (first | refine zF ?_ | refine zG ?_ | refine zT (by first | rfl | exact qY hl | (simp only [MR.len,List.length_nil,List.length_map];omega)) ?_)
  refine zC (zA (zM ?_));exact FinH.ret 100 rfl rfl (Sub.mo (by rw [List.length_map,Nat.zero_add])) ⟨SubO.mr rfl,trivial⟩
theorem zM1 {P : Program} {f : FuncId} {ty : TypeId} {sz : Nat} (hb : Bod P f) {α : Type} (l : List α) (el : α → List D) (z : α) (i : Nat) (hi : i < l.length) (zc : List Value)
  (hz : ∀ w s,AllV w s (D.pvs (el z)) zc) (hz1 : ∀ v ∈ zc,v.oneCell' = true) (hsz : ∀ a,(D.pvs (el a)).length = sz) (hzl : zc.length = sz) (hpos : 0 < sz)
  (hC : ∀ (w : World) (G cap : Nat) (vs rest : List Value),CellB w G (vs ++ rest).toArray ty → vs.length = l.length * sz → (vs ++ rest).length = cap * sz → l.length ≤ cap → cap ≤ maxLen → (∀ v ∈ vs,v.oneCell' = true) →
   Calls P f #[.slice (some ⟨G,0,none⟩) l.length cap,.int .i64 (i : Nat),.int .i64 ((i : Nat) + 1)] w fun e w' => e = .returned (.slice (some ⟨G,0,none⟩) (l.length - 1) cap) ∧ w' = w.drew.setRow G (vs.take (i * sz) ++ vs.drop ((i + 1) * sz) ++ zc ++ rest).toArray) :
  FnG P f [.mo 0 l.length,.v (.int .i64 (i : Nat)),.v (.int .i64 ((i : Nat) + 1))] [.mrow ty sz (.map l el z)] (.sl false sz (l.eraseIdx i) el z) [.row ty sz l.length] := by
 refine ⟨hb,fun w s g vs hg hv => ?_⟩;obtain ⟨la',hla'⟩ : ∃ la',la' = l.eraseIdx i ++ [z] := ⟨_,rfl⟩;have hlen : la'.length = l.length := by rw [hla',List.length_append,List.length_eraseIdx_of_lt hi];simp;omega
 have hle : (l.eraseIdx i).length = l.length - 1 := List.length_eraseIdx_of_lt hi;have hpre : l.eraseIdx i = la'.take (l.eraseIdx i).length := by rw [hla',List.take_left]
 have pl : ∀ l : List α,(D.pvss (l.map el)).length = l.length := fun l => by rw [yJ,List.length_map]
 have hrs : ∀ l : List α,∀ r ∈ D.pvss (l.map el),r.length = sz := fun l r hr => by
  rw [yK,List.map_map] at hr;obtain ⟨a,_,rfl⟩ := List.mem_map.1 hr;exact hsz a
 have hout : (D.sl false sz (l.eraseIdx i) el z).tv = .pv (PV.sl false sz ((D.pvss (la'.map el)).take (l.eraseIdx i).length)) := by
  show TV.pv (PV.sl false sz ((l.eraseIdx i).map fun a => D.pvs (el a))) = _;congr 2;rw [yK,List.map_map,← List.map_take,← hpre];rfl
 have hown : ows (uT 0 [.row ty sz l.length]) = [(0,Own.row ty sz (D.pvss (la'.map el)).length)] := by rw [pl,hlen];rfl
 rw [hout,hown]
 match vs,hv with
 | [v,a1,a2],⟨hv,ha1,ha2,_⟩ =>
  have hv : TV.P w s g (.mo 0 l.length) v := hv;rw [TV.P] at hv;have ha1 : a1 = .int .i64 (i : Nat) := ha1;have ha2 : a2 = .int .i64 ((i : Nat) + 1) := ha2;subst ha1 ha2;have hok : Ok1 w s g 0 (.mrow ty sz (D.pvss (l.map el))) := hg.ok 0 _ rfl;obtain ⟨hnone,u,hu,hcase⟩ := hok;have hu0 := hu;rw [pl] at hu hnone;have hvu : u = v := by have h1 := hv.1;rw [hu] at h1;exact Option.some.inj h1
  subst hvu;rcases hcase with ⟨rfl,he⟩ | ⟨G,cap,cs,rest,rfl,hG,hlc,hcm,hcl,hall,⟨hone,hone2⟩,hns⟩
  ·have : l.length = 0 := by rw [← pl,he];rfl
   omega
  ·rw [pl] at hlc;have hcsl : cs.length = l.length * sz := by
    rw [hall.length,jS (hrs l),pl]
   have hC' := hC w G cap cs rest hG hcsl hcl hlc hcm hone2;rw [pl];refine hC'.mono fun e w' hq => ?_;obtain ⟨rfl,rfl⟩ := hq;have hnl : (cs.take (i * sz) ++ cs.drop ((i + 1) * sz) ++ zc).length = cs.length := by
    have h1 : (i + 1) * sz ≤ l.length * sz := Nat.mul_le_mul_right _ hi;have h2 : (i + 1) * sz = i * sz + sz := Nat.succ_mul _ _;simp only [List.length_append,List.length_take,List.length_drop,hzl];omega
   have hput : CellB (w.drew.setRow G (cs.take (i * sz) ++ cs.drop ((i + 1) * sz) ++ zc ++ rest).toArray) G (cs.take (i * sz) ++ cs.drop ((i + 1) * sz) ++ zc ++ rest).toArray ty :=
    CellB.setRow (w := w.drew) (cur := (cs ++ rest).toArray) (hG.keep rfl) (by rw [List.size_toArray,List.size_toArray,List.length_append,hnl,List.length_append])
   have hbk0 : blk g 0 (Own.mrow ty sz (D.pvss (l.map el))) = some G := by rw [qO hu0];rfl
   have hu' : g.gn 0 (D.pvss (la'.map el)).length = some (.slice (some ⟨G,0,none⟩) (D.pvss (la'.map el)).length cap) := by
    rw [pl la',hlen,hu,pl l]
   have hg1 : Good w s g [(0,Own.mrow ty sz (D.pvss (l.map el)))] [(0,Own.mrow ty sz (D.pvss (la'.map el)))] := ⟨hg.lt,hg.ok,hg.sep,fun k c h1 h2 => (by
    obtain ⟨rfl,_⟩ := jC h1;rw [zY] at h2;simp at h2),hg.gl⟩
   have hrows : (D.pvss (la'.map el)).flatten = (D.pvss (l.map el)).flatten.take (i * sz) ++ (D.pvss (l.map el)).flatten.drop ((i + 1) * sz) ++ D.pvs (el z) := by
    rw [← qV0 _ i (hrs l),← qW0 _ (i + 1) (hrs l),hla',List.eraseIdx_eq_take_drop_succ,yK,yK,List.map_append,List.map_append,List.map_append,List.map_append,← List.map_take,← List.map_take,← List.map_drop,← List.map_drop,List.flatten_append,List.flatten_append];simp
   have S1 : Stp w s g [(0,Own.mrow ty sz (D.pvss (l.map el)))] (w.drew.setRow G (cs.take (i * sz) ++ cs.drop ((i + 1) * sz) ++ zc ++ rest).toArray) s g [(0,Own.mrow ty sz (D.pvss (la'.map el)))] := by
    refine Stp.reown hg1 (fun N o hbk => ?_) (by rw [size_setRow];exact Nat.le_refl _) (fun N hN hne => setRow_other _ _ _ _ (fun e => hne (by rw [e];exact hbk0))) (by rfl) (by rfl) (by rfl) (GLe.refl g) (fun _ _ => ⟨rfl,fun _ => rfl⟩) (fun hx => ?_) (fun N hbk => .inr ?_)
    ·rw [hbk0] at hbk;cases hbk;exact hns o
    ·refine ⟨fun m hm => hnone m (by rw [pl,hlen] at hm;exact hm),_,hu',.inr ⟨G,cap,cs.take (i * sz) ++ cs.drop ((i + 1) * sz) ++ zc,rest,rfl,hput,by rw [pl,hlen];exact hlc,hcm,by rw [List.length_append,hnl,← List.length_append];exact hcl,?_,⟨hrs la',fun v hv => ?_⟩,hns⟩⟩
     ·rw [hrows];exact AllV.mono (Ex.good hx) (((hall.take _).append (hall.drop _)).append (hz w s.good))
     ·rcases List.mem_append.1 hv with hv | hv
      ·rcases List.mem_append.1 hv with hv | hv
       ·exact hone2 v (List.mem_of_mem_take hv)
       ·exact hone2 v (List.mem_of_mem_drop hv)
      ·exact hz1 v hv
    ·rw [qO hu'] at hbk;exact hbk0.trans hbk
   obtain ⟨s',h1,h2⟩ := S1.frzD
   have h3 := h1 (.slice (some ⟨G,0,none⟩) (D.pvss (la'.map el)).length cap) (by
    rw [TV.P];exact ⟨hu',.inr ⟨G,cap,rfl,by rw [pl,hlen];exact hlc,hcm⟩⟩)
   rw [TV.P] at h3;refine ⟨s',g,_,rfl,?_,h2⟩;rw [TV.P,← hle];exact sl_cutD h3.1 (by rw [pl,hlen,hle];omega)
def zValS : Value := .string ⟨#[]⟩
def zValV : Value := .agg #[.int .i64 0,.bool false,.slice none 0 0,.bool false,.slice none 0 0,.string ⟨#[]⟩,.int .i64 0]
set_option maxHeartbeats 4000000 in
set_option maxRecDepth 1000000 in
theorem del_walkS (w : World) (G cap n i : Nat) (vs rest : List Value) (hB : CellB w G (vs ++ rest).toArray 9) (hl : vs.length = n * 1) (hr : (vs ++ rest).length = cap * 1) (hn : n ≤ cap) (hm : cap ≤ maxLen) (hone : ∀ v ∈ vs,v.oneCell' = true) (hi : i < n) (j : Nat) (hj : j = i + 1) :
  Calls Tryz.prog 49 #[.slice (some ⟨G,0,none⟩) n cap,.int .i64 (i : Nat),.int .i64 (j : Nat)] w fun e w' => e = .returned (.slice (some ⟨G,0,none⟩) (n - 1) cap) ∧ w' = w.drew.setRow G (vs.take (i * 1) ++ vs.drop (j * 1) ++ (zValS).cells.toList ++ rest).toArray := by
 have hm' : cap ≤ 9223372036854775807 := Nat.le_trans hm (by decide);obtain ⟨news,hnews⟩ : ∃ news,news = vs.drop (j * 1) := ⟨_,rfl⟩;have hlen : news.length = (n - j) * 1 := by rw [hnews,List.length_drop,hl];omega
 obtain ⟨cur,hcur⟩ : ∃ cur,cur = (vs ++ rest).toArray := ⟨_,rfl⟩;have hctl : cur.toList = vs ++ rest := by rw [hcur]
 rw [← hcur] at hB;obtain ⟨A,hA,hsrc⟩ : ∃ A : Addr,(if cap = j then some (⟨G,0,none⟩ : Addr) else some ⟨G,j,none⟩) = some A ∧ Hid (∀ t u,news[t]? = some u → w.drew.cell? (A.add t) = some u) := by
  by_cases h : cap = j
  ·refine ⟨⟨G,0,none⟩,by simp [h],fun t u hu => ?_⟩;have h0 : news.length = 0 := by rw [hlen];omega
   rw [List.length_eq_zero_iff.1 h0] at hu;simp at hu
  ·refine ⟨⟨G,j,none⟩,by simp [h],fun t u hu => ?_⟩;rw [Addr.add_lit];have h1 : w.drew.cell? ⟨G,j + t,none⟩ = cur[j + t]? := CellB.cell (w := w.drew) (hB.keep rfl) _;rw [h1,hcur,List.getElem?_toArray];rw [hnews,List.getElem?_drop,Nat.mul_one] at hu;have h2 := (List.getElem?_eq_some_iff.1 hu).1;rw [List.getElem?_append_left h2];exact hu
 have s1 : Hid (news.length = (n - j) * 1) := hlen;have s2 : Hid (∀ u ∈ news,u.oneCell' = true) := fun u hu => hone u (by rw [hnews] at hu;exact List.mem_of_mem_drop hu);have sB : Hid (CellB w.drew G cur 9) := hB.keep rfl;have hfit : Hid (i * 1 + news.length ≤ cur.size) := by
  unfold Hid;rw [hlen,hcur,List.size_toArray,List.length_append,hl];omega
 obtain ⟨W1,hW1⟩ : ∃ W1,W1 = w.drew.setRow G (cur.toList.take (i * 1) ++ news ++ cur.toList.drop (i * 1 + news.length)).toArray := ⟨_,rfl⟩;have hc1 : (cur.toList.take (i * 1) ++ news ++ cur.toList.drop (i * 1 + news.length)).length = (vs ++ rest).length := by
  have := hfit.out;rw [hcur,List.size_toArray] at this;rw [hctl];simp only [List.length_append,List.length_take,List.length_drop] at this ⊢;omega
 have hB1 : CellB W1 G (cur.toList.take (i * 1) ++ news ++ cur.toList.drop (i * 1 + news.length)).toArray 9 := by
  rw [hW1];exact CellB.setRow (w := w.drew) (cur := cur) (hB.keep rfl) (by rw [List.size_toArray,hcur,List.size_toArray,← hc1,hctl])
 obtain ⟨W2,hW2⟩ : ∃ W2,W2 = w.drew.setRow G (vs.take (i * 1) ++ vs.drop (j * 1) ++ (zValS).cells.toList ++ rest).toArray := ⟨_,rfl⟩;have hcl : ∀ ty,(Builtin.clear_ #[33] ty #[.slice (some ⟨G,i + (n - j),none⟩) (n - (i + (n - j))) (cap - (i + (n - j)))]).run Tryz.prog W1 = .ok (.tuple #[]) W2 := fun ty => by
  rw [hW2];rw [show n - (i + (n - j)) = 1 by omega,show i + (n - j) = n - 1 by omega];rw [show (some (⟨G,n - 1,none⟩ : Addr)) = some ⟨G,(n - 1) * 1,none⟩ by rw [Nat.mul_one],tI W1 33 9 ty zValS Tryz.underlying33 (fun w => by kernel_rfl) G ((n - 1) * 1) (cap - (n - 1)) _ hB1 (by show (n - 1) * 1 + 1 ≤ _;rw [List.size_toArray,hc1,List.length_append,hl];omega) (by decide),hW1,setRow_setRow];congr 2;have e1 : (vs ++ rest).take (i * 1) = vs.take (i * 1) := by rw [List.take_append_of_le_length (by omega)]
  have e2 : (i * 1 + news.length) = (n - 1) * 1 := by rw [hlen];omega
  have e3 : (vs.take (i * 1) ++ news).length = (n - 1) * 1 := by rw [List.length_append,List.length_take,hlen,hl];omega
  have e4 : ((vs ++ rest).drop ((n - 1) * 1)).drop 1 = rest := by rw [List.drop_drop,show (n - 1) * 1 + 1 = vs.length by omega,List.drop_left]
  simp only [List.toList_toArray,hctl,e1,e2];rw [List.take_left' e3,← List.drop_drop,List.drop_left' e3,show zValS.cells.size = 1 from rfl,e4,← hnews]
 have hW : Hid (W1 = w.drew.setRow G (cur.toList.take (i * 1) ++ news ++ cur.toList.drop (i * 1 + news.length)).toArray) := hW1;have hX := Lib.hid hW2;have hic : i ≤ cap := by omega
 have hjc : j ≤ cap := by omega
 have hij : i < j := by omega
 have hjn : j ≤ n := by omega
 have mixed := yQ;have hJ := Lib.hid hj;clear hctl hcur hW2 hW1 hB1 hB hnews hlen hone hr hl hc1 hj
 go_enter Tryz.func49,Tryz.ntmps49
 go_wp2_with fail
 go_region_law_o (refine yM0 rfl (.tmp 22) (.tmp 25) 33 rfl 9 Tryz.t9 1 Tryz.underlying33 (by kernel_rfl) rfl G i cap (by simp [Act.eval,Act.put]) _ sB.out A (n - j) (cap - j) news (by simp [Act.eval,Act.put]) s1.out hsrc.out s2.out (by omega) hfit.out ?_;rw [← hW.out])
 go_wp2
 go_ret
 have := hJ.out;exact ⟨by rw [show n - 1 = i + (n - j) by omega];rfl,hX.out⟩
set_option maxHeartbeats 4000000 in
set_option maxRecDepth 1000000 in
theorem del_walkV (w : World) (G cap n i : Nat) (vs rest : List Value) (hB : CellB w G (vs ++ rest).toArray 29) (hl : vs.length = n * 7) (hr : (vs ++ rest).length = cap * 7) (hn : n ≤ cap) (hm : cap ≤ maxLen) (hone : ∀ v ∈ vs,v.oneCell' = true) (hi : i < n) (j : Nat) (hj : j = i + 1) :
  Calls Tryz.prog 50 #[.slice (some ⟨G,0,none⟩) n cap,.int .i64 (i : Nat),.int .i64 (j : Nat)] w fun e w' => e = .returned (.slice (some ⟨G,0,none⟩) (n - 1) cap) ∧ w' = w.drew.setRow G (vs.take (i * 7) ++ vs.drop (j * 7) ++ (zValV).cells.toList ++ rest).toArray := by
 have hm' : cap ≤ 9223372036854775807 := Nat.le_trans hm (by decide);obtain ⟨news,hnews⟩ : ∃ news,news = vs.drop (j * 7) := ⟨_,rfl⟩;have hlen : news.length = (n - j) * 7 := by rw [hnews,List.length_drop,hl];omega
 obtain ⟨cur,hcur⟩ : ∃ cur,cur = (vs ++ rest).toArray := ⟨_,rfl⟩;have hctl : cur.toList = vs ++ rest := by rw [hcur]
 rw [← hcur] at hB;obtain ⟨A,hA,hsrc⟩ : ∃ A : Addr,(if cap = j then some (⟨G,0,none⟩ : Addr) else some ⟨G,j * 7,none⟩) = some A ∧ Hid (∀ t u,news[t]? = some u → w.drew.cell? (A.add t) = some u) := by
  by_cases h : cap = j
  ·refine ⟨⟨G,0,none⟩,by simp [h],fun t u hu => ?_⟩;have h0 : news.length = 0 := by rw [hlen];omega
   rw [List.length_eq_zero_iff.1 h0] at hu;simp at hu
  ·refine ⟨⟨G,j * 7,none⟩,by simp [h],fun t u hu => ?_⟩;rw [Addr.add_lit];have h1 : w.drew.cell? ⟨G,j * 7 + t,none⟩ = cur[j * 7 + t]? := CellB.cell (w := w.drew) (hB.keep rfl) _;rw [h1,hcur,List.getElem?_toArray];rw [hnews,List.getElem?_drop] at hu;have h2 := (List.getElem?_eq_some_iff.1 hu).1;rw [List.getElem?_append_left h2];exact hu
 have s1 : Hid (news.length = (n - j) * 7) := hlen;have s2 : Hid (∀ u ∈ news,u.oneCell' = true) := fun u hu => hone u (by rw [hnews] at hu;exact List.mem_of_mem_drop hu);have sB : Hid (CellB w.drew G cur 29) := hB.keep rfl;have hfit : Hid (i * 7 + news.length ≤ cur.size) := by
  unfold Hid;rw [hlen,hcur,List.size_toArray,List.length_append,hl];omega
 obtain ⟨W1,hW1⟩ : ∃ W1,W1 = w.drew.setRow G (cur.toList.take (i * 7) ++ news ++ cur.toList.drop (i * 7 + news.length)).toArray := ⟨_,rfl⟩;have hc1 : (cur.toList.take (i * 7) ++ news ++ cur.toList.drop (i * 7 + news.length)).length = (vs ++ rest).length := by
  have := hfit.out;rw [hcur,List.size_toArray] at this;rw [hctl];simp only [List.length_append,List.length_take,List.length_drop] at this ⊢;omega
 have hB1 : CellB W1 G (cur.toList.take (i * 7) ++ news ++ cur.toList.drop (i * 7 + news.length)).toArray 29 := by
  rw [hW1];exact CellB.setRow (w := w.drew) (cur := cur) (hB.keep rfl) (by rw [List.size_toArray,hcur,List.size_toArray,← hc1,hctl])
 obtain ⟨W2,hW2⟩ : ∃ W2,W2 = w.drew.setRow G (vs.take (i * 7) ++ vs.drop (j * 7) ++ (zValV).cells.toList ++ rest).toArray := ⟨_,rfl⟩;have hcl : ∀ ty,(Builtin.clear_ #[34] ty #[.slice (some ⟨G,(i + (n - j)) * 7,none⟩) (n - (i + (n - j))) (cap - (i + (n - j)))]).run Tryz.prog W1 = .ok (.tuple #[]) W2 := fun ty => by
  rw [hW2];rw [show n - (i + (n - j)) = 1 by omega,show i + (n - j) = n - 1 by omega];rw [tI W1 34 29 ty zValV Tryz.underlying34 (fun w => by kernel_rfl) G ((n - 1) * 7) (cap - (n - 1)) _ hB1 (by show (n - 1) * 7 + 7 ≤ _;rw [List.size_toArray,hc1,List.length_append,hl];omega) (by decide),hW1,setRow_setRow];congr 2;have e1 : (vs ++ rest).take (i * 7) = vs.take (i * 7) := by rw [List.take_append_of_le_length (by omega)]
  have e2 : (i * 7 + news.length) = (n - 1) * 7 := by rw [hlen];omega
  have e3 : (vs.take (i * 7) ++ news).length = (n - 1) * 7 := by rw [List.length_append,List.length_take,hlen,hl];omega
  have e4 : ((vs ++ rest).drop ((n - 1) * 7)).drop 7 = rest := by rw [List.drop_drop,show (n - 1) * 7 + 7 = vs.length by omega,List.drop_left]
  simp only [List.toList_toArray,hctl,e1,e2];rw [List.take_left' e3,← List.drop_drop,List.drop_left' e3,show zValV.cells.size = 7 from rfl,e4,← hnews]
 have hW : Hid (W1 = w.drew.setRow G (cur.toList.take (i * 7) ++ news ++ cur.toList.drop (i * 7 + news.length)).toArray) := hW1;have hX := Lib.hid hW2;have hic : i ≤ cap := by omega
 have hjc : j ≤ cap := by omega
 have hij : i < j := by omega
 have hjn : j ≤ n := by omega
 have mixed := yQ;have hJ := Lib.hid hj;clear hctl hcur hW2 hW1 hB1 hB hnews hlen hone hr hl hc1 hj
 go_enter Tryz.func50,Tryz.ntmps50
 go_wp2_with fail
 go_region_law_o (refine yM0 rfl (.tmp 22) (.tmp 25) 34 rfl 29 Tryz.t29 7 Tryz.underlying34 (by kernel_rfl) rfl G i cap (by simp [Act.eval,Act.put]) _ sB.out A (n - j) (cap - j) news (by simp [Act.eval,Act.put]) s1.out hsrc.out s2.out (by omega) hfit.out ?_;rw [← hW.out])
 go_wp2
 go_ret
 have := hJ.out;exact ⟨by rw [show n - 1 = i + (n - j) by omega];rfl,hX.out⟩
theorem DeleteS_G (l : List ByteArray) (k : Int) (h0 : 0 ≤ k) (hk : k.toNat < l.length) : FnG Tryz.prog 49 [.mo 0 l.length,.v (.int .i64 k),.v (.int .i64 (k + 1))] [.mrow 9 1 (.map l sD ByteArray.empty)] (.sl false 1 (l.eraseIdx k.toNat) sD ByteArray.empty) [.row 9 1 l.length] := by
 obtain ⟨i,rfl⟩ : ∃ i : Nat,k = i := ⟨k.toNat,by omega⟩;refine zM1 ⟨_,Tryz.func49,rfl,rfl⟩ l sD ByteArray.empty i hk zValS.cells.toList (fun w s => ⟨rfl,trivial⟩) (by decide) (fun _ => rfl) rfl (by decide) (fun w G cap vs rest hB hl hr hn hm hone => ?_);exact del_walkS w G cap l.length i vs rest hB hl hr hn hm hone hk (i + 1) rfl
theorem zVal_ok (w : World) (s : Sb) : AllV w s (D.pvs (vlD vl0)) zValV.cells.toList := by
 have hn : ∀ sz,(PV.sl false sz []).p w s (.slice none 0 0) := fun sz => ⟨none,0,rfl,Nat.le_refl _,by decide,(fun _ h => by cases h),fun i row h => by simp at h⟩;exact ⟨rfl,rfl,hn 1,rfl,hn 1,rfl,rfl,trivial⟩
theorem DeleteV_G (l : List Vl) (k : Int) (h0 : 0 ≤ k) (hk : k.toNat < l.length) : FnG Tryz.prog 50 [.mo 0 l.length,.v (.int .i64 k),.v (.int .i64 (k + 1))] [.mrow 29 7 (.map l vlD vl0)] (.sl false 7 (l.eraseIdx k.toNat) vlD vl0) [.row 29 7 l.length] := by
 obtain ⟨i,rfl⟩ : ∃ i : Nat,k = i := ⟨k.toNat,by omega⟩;refine zM1 ⟨_,Tryz.func50,rfl,rfl⟩ l vlD vl0 i hk zValV.cells.toList zVal_ok (by decide) (fun _ => rfl) rfl (by decide) (fun w G cap vs rest hB hl hr hn hm hone => ?_);exact del_walkV w G cap l.length i vs rest hB hl hr hn hm hone hk (i + 1) rfl
variable {md me : Bool}
theorem set_ob {h : List Ob} {n : Int} (hn : inH h n) : h.set n.toNat (yG h n) = h := by
 have h2 := hn.2;have e : yG h n = h[n.toNat] := by show h.getD n.toNat ob0 = _;rw [List.getD_eq_getElem?_getD,List.getElem?_eq_getElem h2];rfl
 rw [e];exact List.set_getElem_self h2
theorem jI0 (h : List Ob) (v : Vl) (hv : v.k = 6 → qC h v.r = true) : Fn Tryz.prog 37 [hpD md h,.agg (vlD v)] (.v (.bool (!wokS h v))) := by
 refine yL zN Tryz.func37 rfl rfl rfl rfl rfl rfl ?_;intro w0 s0 mx;refine zJ 100 ?_;refine zB ?_;refine zB (zE zN [] 200 rfl ?_);refine zH ?_;refine zV _ (qP h v hv) rfl ?_;refine zH ?_;refine zC (zA (zQ (zB (zJ 300 ?_))));refine yD (fun c2 => ?_) (fun c2 => ?_)
 ·
  refine zK (zA (yD (fun c2x => ?_) (fun c2x => ?_)))
  ·
   refine zJ 500 ?_;refine zM (zP (zL ?_));exact FinV.ret rfl (SubP.bool (by simp_all [wokS]))
  ·
   simp_all
 ·
  refine yS zN [] 400 ?_;refine zA (yD (fun c3 => ?_) (fun c3 => ?_))
  ·
   refine zJ 500 ?_;refine zM (zP (zL ?_));exact FinV.ret rfl (SubP.bool (by simp_all [wokS]))
  ·
   refine zJ 600 ?_;refine yD (fun c5 => ?_) (fun c5 => ?_)
   ·
    refine zJ 700 ?_;refine zM (zP (zL ?_));exact FinV.ret rfl (SubP.bool (by simp_all [wokS]))
   ·
    refine zK (zO (zA (zJ 800 ?_)));refine zM ?_;exact FinV.ret rfl (SubP.bool (by simp_all [wokS]))
theorem xI0 (h : List Ob) (v : Vl) (s : ByteArray) (g : Uh h) (hv : v.k = 6 → qC h v.r = true) : Fn Tryz.prog 42 [hpD md h,.agg (vlD v),.v (.string s)] (.v (.bool (fixS h v s))) := by
 refine yL zN Tryz.func42 rfl rfl rfl rfl rfl rfl ?_;intro w0 s0 mx;refine zJ 100 ?_;refine zB ?_;refine zB (zE zN [] 200 rfl ?_);refine zH ?_;refine zV _ (qP h v hv) rfl ?_;refine zH ?_;refine zC (zA (zJ 300 ?_));refine zQ (zJ 400 ?_);refine yD (fun c3 => ?_) (fun c3 => ?_)
 ·
  refine zJ 500 ?_;refine zM (zP (zL ?_));exact FinV.ret rfl (SubP.bool (by rw [fixS,if_pos (by simpa using c3)];rfl))
 ·
  refine zJ 600 ?_;refine zS rfl (fun c5 => ?_) (fun c5 => ?_)
  ·have hk10 : (zR h v).kind = 10 := by simpa using c5
   have hcin := uZ g hk10;refine zJ 700 ?_;refine zQ (zB (zJ 800 ?_));refine yD (fun c7 => ?_) (fun c7 => ?_)
   ·
    refine zK (zA (yD (fun c7x => ?_) (fun c7x => ?_)))
    ·
     refine zB (zE zN [] 1200 rfl ?_);refine zH ?_;refine zV _ (wA h (zR h v).cls 28 hcin) rfl ?_;refine zH ?_;refine zC (zA (zM (zP (zP (zL ?_)))));exact FinV.ret rfl (SubP.bool (by simp_all [fixS,argN,uX,ctxN,uV,dX]))
    ·
     simp_all
   ·
    refine zJ 900 ?_;refine yD (fun c8 => ?_) (fun c8 => ?_)
    ·
     refine zK (zA (yD (fun c8x => ?_) (fun c8x => ?_)))
     ·
      refine zB (zE zN [] 1200 rfl ?_);refine zH ?_;refine zV _ (wA h (zR h v).cls 28 hcin) rfl ?_;refine zH ?_;refine zC (zA (zM (zP (zP (zL ?_)))));exact FinV.ret rfl (SubP.bool (by simp_all [fixS,argN,uX,ctxN,uV,dX]))
     ·
      simp_all
    ·
     refine zJ 1000 ?_;refine yD (fun c9 => ?_) (fun c9 => ?_)
     ·
      refine zK (zA (yD (fun c9x => ?_) (fun c9x => ?_)))
      ·
       refine zB (zE zN [] 1200 rfl ?_);refine zH ?_;refine zV _ (wA h (zR h v).cls 28 hcin) rfl ?_;refine zH ?_;refine zC (zA (zM (zP (zP (zL ?_)))));exact FinV.ret rfl (SubP.bool (by simp_all [fixS,argN,uX,ctxN,uV,dX]))
      ·
       simp_all
     ·
      refine yS zN [] 1100 ?_;refine zA (yD (fun c10 => ?_) (fun c10 => ?_))
      ·
       refine zB (zE zN [] 1200 rfl ?_);refine zH ?_;refine zV _ (wA h (zR h v).cls 28 hcin) rfl ?_;refine zH ?_;refine zC (zA (zM (zP (zP (zL ?_)))));exact FinV.ret rfl (SubP.bool (by simp_all [fixS,argN,uX,ctxN,uV,dX]))
      ·
       refine zJ 1300 ?_;refine yD (fun c12 => ?_) (fun c12 => ?_)
       ·
        refine zB (zE zN [] 1400 rfl ?_);refine zH ?_;refine zV _ (wA h (zR h v).cls 48 hcin) rfl ?_;refine zH ?_;refine zC (zA (zM (zP (zP (zL ?_)))));exact FinV.ret rfl (SubP.bool (by simp_all [fixS,argN,uX,ctxN,uV,dX]))
       ·
        refine zK (zO (zO (zA (zJ 1500 ?_))));refine zM ?_;exact FinV.ret rfl (SubP.bool (by simp_all [fixS,argN,uX,ctxN,uV,dX]))
  ·
   refine zK (zO (zA (zJ 1500 ?_)));refine zM ?_;exact FinV.ret rfl (SubP.bool (by simp_all [fixS,argN,uX,ctxN,uV,dX]))
theorem jJ0 (h : List Ob) (v : Vl) (hh : h.length ≤ 4000000) (hin : inH h v.r) (hst : 0 ≤ (yG h v.r).state ∧ (yG h v.r).state ≤ 1099511627776) : FnG Tryz.prog 46 [.bp 0 0,.agg (vlD v)] (hpO h) (.v (.tuple #[])) (hpO (h.set v.r.toNat (jL (yG h v.r)))) := by
 refine vL zN Tryz.func46 rfl rfl rfl rfl rfl rfl rfl ?_;intro w0 s0 mx;refine zJ 100 ?_;refine zB (zW zN [] mK3 200 yQ (by kernel_rfl) rfl ?_);repeat (first | refine zF ?_ | refine zG ?_ | refine zT (by first | exact ⟨hin.1,hin.2⟩ | exact ⟨rfl,hin.2⟩ | exact ⟨by simp [MR.len],by simpa [MR.len] using hin.2⟩ | rfl | (simp only [MR.len];done) | first | exact trivial | omega | exact ini (by omega) (by omega) | (intro hh;simp at hh;exact ini (by omega) (by omega)) | (intro hh;simp at hh ⊢;omega) | (simp at *;omega) | (simp_all;done)) ?_)
 refine zC (zA (yD (fun c1 => ?_) (fun c1 => ?_)))
 ·
  refine zW zN [] [[],[0],[0,1],[0,1,2],[],[4],(rgN 6),(rgN 7),(rgN 8),(rgN 9),(rgN 10),(rgN 11),(rgN 12)] 300 yQ (by kernel_rfl) rfl ?_;repeat (first | refine zF ?_ | refine zG ?_ | refine zT (by first | exact ⟨hin.1,hin.2⟩ | exact ⟨rfl,hin.2⟩ | exact ⟨by simp [MR.len],by simpa [MR.len] using hin.2⟩ | rfl | (simp only [MR.len];done) | (show InI _;exact ⟨by have := hst.1;show _ ≤ (yG h v.r).state + 1;omega,by have := hst.2;show (yG h v.r).state + 1 ≤ _;omega⟩) | first | exact trivial | omega | exact ini (by omega) (by omega) | (intro hh;simp at hh;exact ini (by omega) (by omega)) | (intro hh;simp at hh ⊢;omega) | (simp at *;omega) | (simp_all;done)) ?_)
  refine zC ?_;exact FinH.normal 2 rfl rfl (Sub.refl _) ⟨⟨rfl,Sub.mo (by simp),rfl,trivial⟩,SubO.mp (by rw [show jL (yG h v.r) = { yG h v.r with state := (yG h v.r).state + 1 } from if_pos (by simpa using c1)];exact wV rfl),trivial⟩
 ·
  refine zK ?_;exact FinH.normal 2 rfl rfl (Sub.refl _) ⟨⟨rfl,Sub.mo (by simp),rfl,trivial⟩,SubO.mp (by rw [show jL (yG h v.r) = yG h v.r from if_neg (by simpa using c1),set_ob hin]),trivial⟩
end Go.Proofs.YtbhndnphimmjjaaGreatDoor
