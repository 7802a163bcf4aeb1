/- Part 24 of the proof. -/
import Derived.Test.YtmbnclhokhggaaaGreatDoorM23
import Derived.Test.YtmbnclhokhggaaaGreatDoorM22
import Derived.Test.YtmbnclhokhggaaaGreatDoorM21
import Derived.Test.YtmbnclhokhggaaaGreatDoorM18
import Derived.Test.YtmbnclhokhggaaaGreatDoorM12
import Derived.Test.YtmbnclhokhggaaaGreatDoorM5
namespace Go.Proofs.YtmbnclhokhggaaaGreatDoor
open Go.RowKit
variable {md me : Bool}
structure Skc (h : List Ob) (l : List Vl) : Prop where
 hc : HpC h
 hn : h.length ≤ 2000000
 vc : ∀ v ∈ l,VlC h.length v
 ln : l.length ≤ 2000000
 cost : cVs l + cH h ≤ 1073741824
theorem cOs_le {h : List Ob} {m : Nat} (hm : m ≤ h.length) : cOs h (List.range m) ≤ cH h := sum_nodup List.nodup_range fun n hn => by have := List.mem_range.1 hn;omega
theorem cOs_succ (h : List Ob) (m : Nat) : cOs h (List.range (m + 1)) = cOs h (List.range m) + cO (h.getD m ob0) := by
 rw [cOs,cOs,List.range_succ,List.map_append,List.sum_append,List.map_singleton,List.sum_singleton]
theorem SkI.nil (b : Int) (N : Nat) : SkI b N ⟨[],[]⟩ := ⟨(fun _ h => by cases h),List.nodup_nil⟩
theorem Rn.cost {b : Int} {e : Bool} {h : List Ob} {m C : Nat} {kf : Skt} (x : Rn b e h m C kf) (hi : x.i < x.k.ord.length) (hm : (m : Int) ≤ b) (hm2 : m ≤ h.length) : x.k.out.length + cO (h.getD (x.k.ord.getD x.i 0).toNat ob0) ≤ C + cH h := by
 have h1 := x.len;have h2 := cost_all (i := x.i + 1) x.inv hm hm2;have e0 : x.k.ord.getD x.i 0 = x.k.ord[x.i] := by rw [List.getD_eq_getElem?_getD,List.getElem?_eq_getElem hi];rfl
 rw [List.take_add_one,List.getElem?_eq_getElem hi] at h2;rw [e0];simp only [cOs,List.map_append,List.sum_append,Option.toList_some,List.map_cons,List.map_nil,List.sum_cons,List.sum_nil,Option.getD_some] at h1 h2 ⊢;omega
structure Bs (n : Nat) (h : List Ob) (k0 : Skt) where
 i : Nat
 le : i ≤ min n h.length
noncomputable def Bs.k {n : Nat} {h : List Ob} {k0 : Skt} (x : Bs n h k0) : Skt := Skt.base n true h k0 x.i
theorem sn241 {P : Program} {K : DS → Prop} {p : Prop} {r : Out} (hr : r.sat P K) (hp : p := by first | exact ⟨rfl,by show _ < y.k.ord.length;omega⟩ | rfl | (simp only [MR.len,List.length_map];done) | (simp only [MR.len,List.length_map];omega) | first | exact trivial | omega | exact ini (by omega) (by omega) | (intro hh;simp at hh;exact ini (by omega) (by omega)) | (intro hh;simp at hh ⊢;omega) | (simp at *;omega) | (simp_all;done)) : (Out.need p r).sat P K := ⟨hp,hr⟩
set_option maxHeartbeats 2000000 in
theorem Settled_ok (a : List Ob) (n : Nat) (l : List Vl) (hs : Skc a l) (hn : n ≤ 2000000) : Fn Tryz.prog 68 [hpD me a,.v (.int .i64 n),.sl false 7 l vlD vl0] (.v (.string (settledS a n l))) := by
 have hc := hs.cost;have hal := hs.hn;have hb0 : (0 : Int) ≤ (n : Nat) := by omega
 have hN0 : a.length ≤ 1000000000 := by omega
 have v1 := vs_ok (SkI.nil (n : Nat) a.length) hb0 hN0 hs.vc;have v2 := v1.len;have v3 : (⟨[],[]⟩ : Skt).out.length = 0 := rfl;have hm2 : min n a.length ≤ a.length := Nat.min_le_right _ _;have hm1 : ((min n a.length : Nat) : Int) ≤ (n : Nat) := by have := Nat.min_le_left n a.length;omega
 have b1 := base_ok (e := true) v1.inv hb0 hN0 hs.hc hm2;refine yK tabT Tryz.func68 rfl rfl rfl rfl rfl rfl ?_;intro w0 s0 mx;refine ev_R tabT [] 100 ?_;refine ev_R tabT [] 200 ?_;refine ev_nilCell 103 2 3 1 rfl rfl ?_;refine ev_nilCell 103 3 5 1 rfl rfl ?_;refine ev_thaw 200 rfl ?_;refine ev_thaw 201 rfl ?_;refine yJ [1,2,3,7] [0] 212 [] [(103,.box 128 [.sl me 10 a obD ob0,.v (.int .i64 (n : Nat)),.mo 200 ((⟨[],[]⟩ : Skt)).ord.length,.mo 201 ((⟨[],[]⟩ : Skt)).out.length]),(200,.mrow 3 1 (.map ((⟨[],[]⟩ : Skt)).ord iD 0)),(201,.mrow 5 1 (.map ((⟨[],[]⟩ : Skt)).out u8D 0))] ?_;refine ⟨⟨le_t,⟨⟨rfl,Sub.refl _,rfl,Sub.refl _,rfl,Sub.mo (rfl),rfl,Sub.mo (rfl),rfl,trivial⟩,SubO.mp (rfl),SubO.mp (rfl),le_o⟩,rfl,rfl⟩,?_⟩;refine zB (zE tabT [1016] 300 rfl ?_);refine zF ?_;refine yD _ _ (skVals_G a (n : Nat) a.length ⟨[],[]⟩ l hb0 hN0 (SkI.nil _ _) hs.vc (by omega) hs.ln) rfl ?_;refine zF ?_;refine zC (zA ?_);refine zB ?_;refine ev_R tabT [] 400 ?_;refine zL ?_;refine zX (ι := Bs n a (Skt.vs (n : Nat) ⟨[],[]⟩ l)) [1,3,7] [0] 450 (fun x => [(8,.v (.int .i64 x.i))]) (fun x => [(103,.box 128 [.sl me 10 a obD ob0,.v (.int .i64 (n : Nat)),.mo 200 (Skt.base (n : Nat) true a (Skt.vs (n : Nat) ⟨[],[]⟩ l) x.i).ord.length,.mo 201 (Skt.base (n : Nat) true a (Skt.vs (n : Nat) ⟨[],[]⟩ l) x.i).out.length]),(200,.mrow 3 1 (.map (Skt.base (n : Nat) true a (Skt.vs (n : Nat) ⟨[],[]⟩ l) x.i).ord iD 0)),(201,.mrow 5 1 (.map (Skt.base (n : Nat) true a (Skt.vs (n : Nat) ⟨[],[]⟩ l) x.i).out u8D 0))]) (fun x => a.length - x.i) ⟨0,Nat.zero_le _⟩ ?_;refine ⟨⟨⟨Sub.int rfl,le_t⟩,⟨⟨rfl,Sub.refl _,rfl,Sub.refl _,rfl,Sub.mo (rfl),rfl,Sub.mo (rfl),rfl,trivial⟩,SubO.mp (rfl),SubO.mp (rfl),le_o⟩,rfl,rfl⟩,fun x => ?_⟩;have hk0 := x.le;refine zB ?_;refine ev_R tabT [] 500 ?_;refine zR rfl (fun c4 => ?_) (fun c4 => ?_)
 ·have hlt : x.i < n ∧ x.i < a.length := by simpa using c4
  have b2 := base_ok (e := true) v1.inv hb0 hN0 hs.hc (m := x.i) (by omega);have b3 := b2.len;have b4 := cOs_le (h := a) (m := x.i + 1) (by omega);rw [cOs_succ] at b4;refine zK (zA ?_);refine zB ?_;refine zL ?_;refine zE tabT [1031] 700 rfl ?_;refine zF ?_;refine yD _ _ (skObj_G a (n : Nat) (Skt.base (n : Nat) true a (Skt.vs (n : Nat) ⟨[],[]⟩ l) x.i) (x.i : Nat) true hb0 hN0 hs.hc (by omega) (by omega) b2.inv (by rw [Int.toNat_natCast];omega)) rfl ?_;refine zF ?_;refine zC (zJ (zA ?_));refine ev_Q tabT [] 800 ?_;have hN := base_succ (n : Nat) true a (Skt.vs (n : Nat) ⟨[],[]⟩ l) x.i;exact zP ⟨x.i + 1,by omega⟩ ⟨⟨Sub.int (by push_cast;rfl),le_t⟩,⟨⟨rfl,Sub.refl _,rfl,Sub.refl _,rfl,Sub.mo (congrArg (fun k : Skt => k.ord.length) hN).symm,rfl,Sub.mo (congrArg (fun k : Skt => k.out.length) hN).symm,rfl,trivial⟩,SubO.mp (congrArg (fun k : Skt => D.pvss (k.ord.map iD)) hN).symm,SubO.mp (congrArg (fun k : Skt => D.pvss (k.out.map u8D)) hN).symm,le_o⟩,rfl,rfl⟩ (by show a.length - (x.i + 1) < a.length - x.i;omega)
 ·have hke : x.i = min n a.length := by have := x.le;simp at c4;omega
  refine yA (zU (zW (zS (zA ?_))));refine zB ?_;refine ev_R tabT [] 800 ?_;refine zL ?_;refine zX (ι := Rn (n : Nat) true a (min n a.length) (cVs l) (Skt.run (n : Nat) true a a.length 0 (Skt.base (n : Nat) true a (Skt.vs (n : Nat) ⟨[],[]⟩ l) (min n a.length)))) [7] [] 850 (fun y => [(9,.v (.int .i64 y.i))]) (fun y => [(103,.box 128 [.sl me 10 a obD ob0,.v (.int .i64 (n : Nat)),.mo 200 (y.k).ord.length,.mo 201 (y.k).out.length]),(200,.mrow 3 1 (.map (y.k).ord iD 0)),(201,.mrow 5 1 (.map (y.k).out u8D 0))]) (fun y => a.length - y.i) (Rn.start true (Skt.base (n : Nat) true a (Skt.vs (n : Nat) ⟨[],[]⟩ l) (min n a.length)) b1.inv (by have := b1.len;omega)) ?_;refine ⟨⟨⟨Sub.int rfl,le_t⟩,⟨⟨rfl,Sub.refl _,rfl,Sub.refl _,rfl,Sub.mo (by rw [hke];rfl),rfl,Sub.mo (by rw [hke];rfl),rfl,trivial⟩,SubO.mp (by rw [hke];rfl),SubO.mp (by rw [hke];rfl),le_o⟩,rfl,rfl⟩,fun y => ?_⟩;have yl := y.inv.len hb0;have yo := y.le;have yb := y.bound hm1 hm2;refine zB ?_;refine ev_R tabT [] 900 ?_;refine zR rfl (fun c8 => ?_) (fun c8 => ?_)
  ·have hlt2 : y.i < y.k.ord.length := by simpa using c8
   have y1 := y.at hlt2;have y2 := y.cost hlt2 hm1 hm2;refine zK (zA ?_);refine zB ?_;refine zL ?_;refine zE tabT [1049] 1100 rfl ?_;repeat (first | refine zG ?_ | refine zH ?_ | refine sn241 ?_)
   refine yD _ _ (skObj_G a (n : Nat) y.k (y.k.ord.getD y.i 0) true hb0 hN0 hs.hc (by omega) y1.2 y.inv (by omega)) rfl ?_;repeat (first | refine zG ?_ | refine zH ?_ | refine sn241 ?_)
   refine zC (zJ (zA ?_));refine ev_Q tabT [] 1200 ?_;exact zP (y.next hlt2 hb0 hN0 hs.hc) ⟨⟨Sub.int (by show (y.i : Int) + 1 = ((y.i + 1 : Nat) : Int);push_cast;rfl),le_t⟩,⟨⟨rfl,Sub.refl _,rfl,Sub.refl _,rfl,Sub.mo (rfl),rfl,Sub.mo (rfl),rfl,trivial⟩,SubO.mp (rfl),SubO.mp (rfl),le_o⟩,rfl,rfl⟩ (by show a.length - (y.i + 1) < a.length - y.i;omega)
  ·have hfe := y.fin (by simpa using c8);refine yA (zU (zW (zS (zA ?_))));refine ev_freeze 201 rfl (by repeat (first | exact trivial | exact rfl | refine ⟨?_,?_⟩)) (by repeat (first | exact trivial | exact (fun _ => rfl) | exact (fun h => absurd h (by decide)) | exact rfl | refine ⟨?_,?_⟩)) ?_;refine zB (zE tabT [] 1200 rfl ?_);repeat (first | refine zG ?_ | refine zH ?_ | refine zQ (by first | rfl | exact (congrArg (List.map u8D) (rowsB_map _)).symm | first | exact trivial | omega | exact ini (by omega) (by omega) | (intro hh;simp at hh;exact ini (by omega) (by omega)) | (intro hh;simp at hh ⊢;omega) | (simp at *;omega) | (simp_all;done)) ?_)
   refine zC (zA (zO ?_));exact FinV.ret rfl (SubP.str (by unfold settledS;exact (congrArg (fun l : List UInt8 => (⟨l.toArray⟩ : ByteArray)) (rowsB_map _)).trans (congrArg (fun k : Skt => (⟨k.out.toArray⟩ : ByteArray)) hfe)))
variable {md me : Bool}
def plnD (l : List St) (s : St) : D := .agg (stsD l :: stD s)
variable {md me : Bool}
def byV (t : ByteArray) : Vl := ⟨5,false,[],false,[],t,0⟩
theorem SubP.ownRows {α : Type} {k sz : Nat} {rows : List (List D)} {l : List α} {f : α → List D} {e : α} (h : RowsP rows (l.map f)) : SubP (.own k sz rows) (.sl false sz l f e) := fun w s v hv => by
 have h1 := rowsP_sl h hv;rw [yE,List.map_map] at h1;exact h1
def spV (s : St) : List Vl := nuV s.k :: nuV s.c :: byV s.s :: s.v :: s.w :: s.l
def spW (s : St) : List Vl := nuV (s.l.length : Nat) :: spV s
def pvS (L : List St) : List Vl := L.flatMap spW
structure StI (s : St) : Prop where
 k1 : -9223372036854775808 ≤ s.k
 k2 : s.k ≤ 9223372036854775807
 c1 : -9223372036854775808 ≤ s.c
 c2 : s.c ≤ 9223372036854775807
 l : s.l.length ≤ 1000000
theorem spW_len {s : St} (h : StI s) : (spW s).length ≤ 1000006 := by
 have := h.l;show s.l.length + 1 + 1 + 1 + 1 + 1 + 1 ≤ _;omega
theorem pvS_len : ∀ {L : List St},(∀ s ∈ L,StI s) → (pvS L).length ≤ L.length * 1000006
 | [],_ => Nat.zero_le _
 | s :: L,h => by
  have h1 := spW_len (h s List.mem_cons_self);have h2 := pvS_len (L := L) fun x hx => h x (List.mem_cons_of_mem _ hx);rw [pvS,List.flatMap_cons,List.length_append,List.length_cons];rw [pvS] at h2;omega
theorem pvS_next {L : List St} {i : Nat} (h : i < L.length) : pvS (L.take (i + 1)) = pvS (L.take i) ++ spW (L.getD i st0) := by
 rw [List.take_add_one,List.getElem?_eq_getElem h,List.getD_eq_getElem?_getD,List.getElem?_eq_getElem h,pvS,pvS,List.flatMap_append];simp
theorem st_at {L : List St} {i : Nat} (h : i < L.length) (hL : ∀ s ∈ L,StI s) : StI (L.getD i st0) := by
 rw [List.getD_eq_getElem?_getD,List.getElem?_eq_getElem h];exact hL _ (List.getElem_mem _)
noncomputable def sameE (h a : List Ob) (l : List St) (s : St) (b : List Ob) (l' : List St) (s' : St) : Bool := (decide ((h.length : Int) ≤ (a.length : Int)) && decide ((l.length : Int) = (l'.length : Int))) && decide (settledS a h.length (pvS (s :: l)) = settledS b h.length (pvS (s' :: l')))
theorem sn242 {P : Program} {K : DS → Prop} {p : Prop} {r : Out} (hr : r.sat P K) (hp : p := by first | exact qM (by have := hs.l;omega) | (simp only [List.length_map,List.length_cons,List.length_nil];have := hs.l;omega) | first | exact trivial | omega | exact ini (by omega) (by omega) | (intro hh;simp at hh;exact ini (by omega) (by omega)) | (intro hh;simp at hh ⊢;omega) | (simp at *;omega) | (simp_all;done)) : (Out.need p r).sat P K := ⟨hp,hr⟩
theorem StepValues_ok (s : St) (hs : StI s) : Fn Tryz.prog 97 [.agg (stD s)] (.sl false 7 (spV s) vlD vl0) := by
 refine yK tabT Tryz.func97 rfl rfl rfl rfl rfl rfl ?_;intro w0 s0 mx;refine ev_R tabT [] 100 ?_;refine zB (zZ tabT [16,19] [[],[0],[0,1],[],[3],[0,1,2,3,4],[],[6],[6,7],[],[9],[],[11],[0,1,2,3,4,5,6,7,8,9,10,11,12],[],[14],[0,1,2,3,4,5,6,7,8,9,10,11,12,13,14,15],[0,1,2,3,4,5,6,7,8,9,10,11,12,13,14,15,16]] 200 mixT (by kernel_rfl) rfl ?_);repeat (first | refine zG ?_ | refine zH ?_ | refine sn242 ?_)
 refine zV _ (N_ok s.k hs.k1 hs.k2) rfl ?_;repeat (first | refine zG ?_ | refine zH ?_ | refine sn242 ?_)
 refine zV _ (N_ok s.c hs.c1 hs.c2) rfl ?_;repeat (first | refine zG ?_ | refine zH ?_ | refine sn242 ?_)
 refine zC (zA (zO ?_));exact FinV.ret rfl (SubP.ownRows (by exact ⟨SubPs.refl _,SubPs.refl _,⟨SubP.refl _,SubP.refl _,SubP.nilSl rfl,SubP.refl _,SubP.nilSl rfl,SubP.refl _,SubP.refl _,trivial⟩,SubPs.refl _,SubPs.refl _,RowsP.refl _⟩))
theorem sn243 {P : Program} {K : DS → Prop} {p : Prop} {r : Out} (hr : r.sat P K) (hp : p := by first | (simp only [List.length_map,List.length_cons,List.length_nil];omega) | first | exact trivial | omega | exact ini (by omega) (by omega) | (intro hh;simp at hh;exact ini (by omega) (by omega)) | (intro hh;simp at hh ⊢;omega) | (simp at *;omega) | (simp_all;done)) : (Out.need p r).sat P K := ⟨hp,hr⟩
theorem sn244 {P : Program} {K : DS → Prop} {p : Prop} {r : Out} (hr : r.sat P K) (hp : p := by first | (simp only [List.length_append,List.length_map,List.length_cons,List.length_nil];have : (spV ((s :: l).getD x.1 st0)).length + 1 = (spW ((s :: l).getD x.1 st0)).length := rfl;omega) | first | exact trivial | omega | exact ini (by omega) (by omega) | (intro hh;simp at hh;exact ini (by omega) (by omega)) | (intro hh;simp at hh ⊢;omega) | (simp at *;omega) | (simp_all;done)) : (Out.need p r).sat P K := ⟨hp,hr⟩
theorem PlanValues_ok (l : List St) (s : St) (hl : l.length ≤ 1000) (hs : ∀ t ∈ s :: l,StI t) : Fn Tryz.prog 69 [plnD l s] (.sl false 7 (pvS (s :: l)) vlD vl0) := by
 have hL : (s :: l).length = l.length + 1 := rfl;refine yK tabT Tryz.func69 rfl rfl rfl rfl rfl rfl ?_;intro w0 s0 mx;refine ev_R tabT [] 100 ?_;refine ev_R tabT [] 200 ?_;refine yM 3 34 7 rfl ?_;refine zB ?_;refine zB (zE tabT [8,11] 300 rfl ?_);repeat (first | refine zG ?_ | refine zH ?_ | refine zQ (by first | exact qM (by omega) | (simp only [List.length_map,List.length_cons,List.length_nil];omega) | first | exact trivial | omega | exact ini (by omega) (by omega) | (intro hh;simp at hh;exact ini (by omega) (by omega)) | (intro hh;simp at hh ⊢;omega) | (simp at *;omega) | (simp_all;done)) ?_)
 refine zC (zA ?_);refine yJ [3,12,13] [200] 310 [(11,.sl false 18 (s :: l) stD st0)] [] ?_;refine ⟨⟨⟨Sub.ownSl rfl,le_t⟩,le_o,rfl,rfl⟩,?_⟩;refine zL ?_;refine zX (ι := {i : Nat // i ≤ (s :: l).length}) [11,12] [] 350 (fun x => [(13,.v (.int .i64 x.1)),(3,.own 200 7 ((pvS ((s :: l).take x.1)).map vlD))]) (fun x => [(200,.row 34 7 ((pvS ((s :: l).take x.1)).map vlD).length)]) (fun x => (s :: l).length - x.1) ⟨0,Nat.zero_le _⟩ ?_;refine ⟨⟨le_t,le_o,rfl,rfl⟩,fun x => ?_⟩;have hk0 : x.1 ≤ (s :: l).length := x.2;refine ev_R tabT [] 400 ?_;refine zB ?_;refine zR rfl (fun c3 => ?_) (fun c3 => ?_)
 ·have hlt : x.1 < (s :: l).length := by simp at c3 ⊢;omega
  have hsi := st_at hlt hs;have hsl := hsi.l;have hp1 := pvS_len (L := (s :: l).take x.1) (fun t ht => hs t (List.mem_of_mem_take ht));rw [List.length_take] at hp1;have hp2 : min x.1 (s :: l).length ≤ 1000 := by omega
  have hp3 := spW_len hsi;refine zK (zA ?_);refine zB ?_;refine zL ?_;refine ev_R tabT [] 500 ?_;refine yJ [3,5,11,12,13] [200,402] 510 [] [(402,.box 44 (stD ((s :: l).getD x.1 st0)))] ?_;refine ⟨⟨le_t,⟨⟨rfl,SubL.same rfl⟩,le_o⟩,rfl,rfl⟩,?_⟩;refine zB (zE tabT [] 600 rfl ?_);repeat (first | refine zG ?_ | refine zH ?_ | refine sn243 ?_)
  refine zV _ (N_ok (((s :: l).getD x.1 st0).l.length : Nat) (by omega) (by omega)) rfl ?_;repeat (first | refine zG ?_ | refine zH ?_ | refine sn243 ?_)
  refine zC (zA ?_);refine zE tabT [] 700 rfl ?_;repeat (first | refine zG ?_ | refine zH ?_ | refine sn244 ?_)
  refine zV _ (StepValues_ok ((s :: l).getD x.1 st0) hsi) rfl ?_;repeat (first | refine zG ?_ | refine zH ?_ | refine sn244 ?_)
  refine zC (zJ (zA ?_));refine ev_Q tabT [] 800 ?_;exact zP ⟨x.1 + 1,by omega⟩ ⟨⟨Sub.int (by push_cast;rfl),Sub.own (by rw [pvS_next hlt,List.map_append,List.append_assoc];rfl),le_t⟩,⟨⟨rfl,rfl,by rw [pvS_next hlt];simp only [List.length_append,List.length_map,List.length_cons,List.length_nil];have : (spW ((s :: l).getD x.1 st0)).length = (spV ((s :: l).getD x.1 st0)).length + 1 := rfl;omega⟩,le_o⟩,rfl,rfl⟩ (by show (s :: l).length - (x.1 + 1) < (s :: l).length - x.1;omega)
 ·have hke : x.1 = (s :: l).length := by simp at c3;omega
  refine yA (zU (zW (zS (zA ?_))));refine ev_R tabT [] 900 ?_;refine zO ?_;exact FinV.ret rfl (SubP.ownSl (by rw [List.take_of_length_le (by omega)]))
theorem SameEffect_ok (h a : List Ob) (l : List St) (s : St) (b : List Ob) (l' : List St) (s' : St) (hh : h.length ≤ 2000000) (hl : l.length ≤ 1000) (hl' : l'.length ≤ 1000) (hs : ∀ t ∈ s :: l,StI t) (hs' : ∀ t ∈ s' :: l',StI t) (ha : Skc a (pvS (s :: l))) (hb : Skc b (pvS (s' :: l'))) : Fn Tryz.prog 42 [hpD md h,hpD me a,plnD l s,hpD me b,plnD l' s'] (.v (.bool (sameE h a l s b l' s'))) := by
 refine yK tabT Tryz.func42 rfl rfl rfl rfl rfl rfl ?_;intro w0 s0 mx;refine ev_R tabT [] 100 ?_;refine ev_R tabT [] 200 ?_;refine zB (zZ tabT [] [[],[0],[0,1],[],[0,1,2,3],[0,1,2,3,4],[0,1,2,3,4,5],[0,1,2,3,4,5,6],[0,1,2,3,4,5,6,7],[0,1,2,3,4,5],[0,1,2,3,4,5,9],[0,1,2,3,4,5,9,10],[0,1,2,3,4,5,6,7,8,9,10,11],[0,1,2,3,4,5,6,7,8,9,10,11,12],[0,1,2,3,4,5,6,7,8,9,10,11,12,13],[0,1,2,3,4,5,6,7,8,9,10,11,12,13,14],[0,1,2,3,4,5,6,7,8,9,10,11,12,13,14],[0,1,2,3,4,5,6,7,8,9,10,11,12,13,14],[0,1,2,3,4,5,6,7,8,9,10,11,12,13,14,17],[0,1,2,3,4,5,6,7,8,9,10,11,12,13,14,15,16,17,18],[0,1,2,3,4,5,6,7,8,9,10,11,12,13,14],[0,1,2,3,4,5,6,7,8,9,10,11,12,13,14],[0,1,2,3,4,5,6,7,8,9,10,11,12,13,14],[0,1,2,3,4,5,6,7,8,9,10,11,12,13,14,15,16,17,18,19,22],[0,1,2,3,4,5,6,7,8,9,10,11,12,13,14,15,16,17,18,19,20,21,22,23],[0,1,2,3,4,5,6,7,8,9,10,11,12,13,14,15,16,17,18,19,20,21,22,23,24],[0,1,2,3,4,5,6,7,8,9,10,11,12,13,14,15,16,17,18,19,20,21,22,23,24,25],[0,1,2,3,4,5,6,7,8,9,10,11,12,13,14,15,16,17,18,19,20,21,22,23,24,25,26]] 300 mixT (by kernel_rfl) rfl ?_);refine zF ?_;refine yG _ (fun hg18 => PlanValues_ok l s hl hs) rfl ?_;refine zF ?_;refine yG _ (fun hg19 => Settled_ok a h.length _ ha hh) rfl ?_;refine zF ?_;refine yG _ (fun hg23 => PlanValues_ok l' s' hl' hs') rfl ?_;refine zF ?_;refine yG _ (fun hg24 => Settled_ok b h.length _ hb hh) rfl ?_;refine zF ?_;refine zC (zA (zO ?_));exact FinV.ret rfl (SubP.bool (by unfold sameE;simp [Bool.and_assoc]))
theorem SameStepEffect_ok (h a : List Ob) (s : St) (b : List Ob) (s' : St) (hh : h.length ≤ 2000000) (hs : StI s) (hs' : StI s') (ha : Skc a (pvS [s])) (hb : Skc b (pvS [s'])) : Fn Tryz.prog 19 [hpD md h,hpD me a,.agg (stD s),hpD me b,.agg (stD s')] (.v (.bool (sameE h a [] s b [] s'))) := by
 refine yK tabT Tryz.func19 rfl rfl rfl rfl rfl rfl ?_;intro w0 s0 mx;refine ev_R tabT [] 100 ?_;refine zB (zE tabT [] 200 rfl ?_);refine zF ?_;refine zV _ ((SameEffect_ok h a [] s b [] s' hh (by decide) (by decide) (fun t ht => by rw [List.mem_singleton.1 ht];exact hs) (fun t ht => by rw [List.mem_singleton.1 ht];exact hs') ha hb).args ⟨SubP.refl _,SubP.refl _,SubP.agg ⟨SubP.nilSl rfl,SubPs.refl _⟩,SubP.refl _,SubP.agg ⟨SubP.nilSl rfl,SubPs.refl _⟩,trivial⟩) rfl ?_;refine zF ?_;refine zC (zA (zO ?_));exact FinV.ret rfl (SubP.refl _)
variable {md me : Bool}
section
variable {h : List Ob} {F G : Vl → Vl → Bool}
end
section
variable {h : List Ob} {x y : Ob} {i : Nat} (hi : i < y.keys.length)
include hi
end
variable {md me : Bool}
def vpD (k : Vl) : D := .pt true (vlD k)
variable {md me : Bool}
variable {md me : Bool}
theorem upd_obI {h : List Ob} {n : Nat} {o : Ob} {row : List D} (hr : D.pvs row = D.pvs (obD o)) : D.pvss ((h.map obD).set n row) = D.pvss ((h.set n o).map obD) := by
 rw [yE,yE,List.map_set,hr,List.map_map,List.map_map,List.map_set];rfl
theorem ob_items (o : Ob) (k : Nat) (l : List Vl) : D.pvs ((obD o).take 6 ++ [.own k 7 (l.map vlD)] ++ (obD o).drop 7) = D.pvs (obD { o with items := l }) := by
 show D.pvs [_,_,_,_,_,_,D.own k 7 (l.map vlD),_,_,_] = D.pvs [_,_,_,_,_,_,D.sl false 7 l vlD vl0,_,_,_];simp only [D.pvs,D.pv,yE,List.map_map];rfl
variable {md me : Bool}
def tpO (l : List Vl) : Ob := ⟨1,ByteArray.empty,0,[],[],[],l,[],0,0⟩
def exN : List ByteArray := [⟨#[97,114,103,115]⟩,⟨#[99,97,117,115,101]⟩,⟨#[99,111,110,116,101,120,116]⟩,⟨#[116,114,97,99,101]⟩]
def meB : ByteArray := ⟨#[109,101,109,98,101,114,115]⟩
theorem tp_in {l : List Vl} (hl : l.length ≤ 2000000) (hv : ∀ v ∈ l,VlIn v) : ObIn (tpO l) :=
 ⟨(by decide : (-9223372036854775808 : Int) ≤ 1 ∧ (1 : Int) ≤ 9223372036854775807),(by decide : (-9223372036854775808 : Int) ≤ 0 ∧ (0 : Int) ≤ 9223372036854775807),(by decide : (-9223372036854775808 : Int) ≤ 0 ∧ (0 : Int) ≤ 9223372036854775807),(by decide : (-9223372036854775808 : Int) ≤ 0 ∧ (0 : Int) ≤ 9223372036854775807),(by decide : ByteArray.empty.size ≤ 2000000),(by decide : 0 ≤ 2000000),(by decide : 0 ≤ 2000000),(by decide : 0 ≤ 2000000),hl,(by decide : 0 ≤ 2000000),(fun _ h => by cases h),hv,(fun _ h => by cases h)⟩
theorem rf_in {n : Nat} (hn : n ≤ 5000000) : VlIn (rfV (n : Nat)) := ⟨(by decide : (-9223372036854775808 : Int) ≤ 6),(by decide : (6 : Int) ≤ 9223372036854775807),(by show -9223372036854775808 ≤ (n : Int);omega),(by show (n : Int) ≤ 9223372036854775807;omega),(fun _ h => by cases h),(fun _ h => by cases h),(by decide : 0 ≤ 2000000),(by decide : 0 ≤ 2000000),(by decide : ByteArray.empty.size ≤ 2000000)⟩
theorem exceptions_ok (h : List Ob) (l : List Vl) (hl : l.length ≤ 2000000) : Fn Tryz.prog 5 [hpD md h,vsD l] (.v (.bool (l.all (excS h)))) := by
 refine yK tabT Tryz.func5 rfl rfl rfl rfl rfl rfl ?_;intro w0 s0 mx;refine ev_R tabT [] 100 ?_;refine zB ?_;refine ev_R tabT [] 200 ?_;refine zL ?_;refine zX (ι := Al l (excS h)) [2,7,8] [0] 250 (fun x => [(9,.v (.int .i64 x.k))]) (fun _ => []) (fun x => l.length - x.k) ⟨0,Nat.zero_le _,fun j x hj => by omega⟩ ?_;refine ⟨⟨le_t,le_o,rfl,rfl⟩,fun x => ?_⟩;have hk := x.le;refine ev_R tabT [] 300 ?_;refine zB ?_;refine yF (fun c2 => ?_) (fun c2 => ?_)
 ·
  refine zK (zA ?_);refine zB ?_;refine zL ?_;refine ev_R tabT [] 400 ?_;refine zB (zE tabT [] 500 rfl ?_);refine zF ?_;refine zV _ (Exception_ok h _) rfl ?_;refine zF ?_;refine zC (zA ?_);refine zR rfl (fun c4 => ?_) (fun c4 => ?_)
  ·have c4 : excS h (l.getD ((x.k : Nat) : Int).toNat vl0) = false := by simpa using c4
   refine ev_R tabT [] 600 ?_;refine zO (zN (zM (yH (zN (zM ?_)))));exact FinV.ret rfl (SubP.bool (Al.no (e := vl0) c2 c4).symm)
  ·have c4 : excS h (l.getD ((x.k : Nat) : Int).toNat vl0) = true := by simpa using c4
   refine zK (zJ (zA ?_));refine ev_Q tabT [] 700 ?_;exact zP (x.next (e := vl0) c2 c4) ⟨le_t,le_o,rfl,rfl⟩ (by show l.length - (x.k + 1) < l.length - x.k;omega)
 ·
  refine yA (zU (zW (zS (zA ?_))));refine ev_R tabT [] 800 ?_;refine zO ?_;exact FinV.ret rfl (SubP.bool (x.yes c2).symm)
theorem tuple_G (h : List Ob) (l : List Vl) (hh : h.length ≤ 4000000) (hl : l.length ≤ 2000000) (hv : ∀ v ∈ l,VlIn v) : FnG Tryz.prog 31 [.bp 0 0,vsD l] (hpO h) (.agg (vlD (rfV (h.length : Nat)))) (hpO (h ++ [tpO l])) := by
 refine qT tabT Tryz.func31 rfl rfl rfl rfl rfl rfl rfl ?_;intro w0 s0 mx;refine ev_R tabT [] 100 ?_;refine zB (zE tabT [1008] 200 rfl ?_);refine zF ?_;refine yD _ _ ((heapNew_G h (tpO l) hh (tp_in hl hv)).args ⟨Sub.refl _,Sub.ofP (SubP.agg ⟨SubP.refl _,SubP.refl _,SubP.refl _,SubP.nilSl rfl,SubP.nilSl rfl,SubP.nilSl rfl,SubP.refl _,SubP.nilSl rfl,SubP.refl _,SubP.refl _,trivial⟩) rfl rfl,trivial⟩) rfl ?_;refine zF ?_;refine zV _ (heapRef_ok _) rfl ?_;refine zF ?_;refine zC (zA (zO ?_));exact FinH.ret 2 rfl rfl (Sub.ofP (SubP.agg (SubPs.refl _)) rfl rfl) ⟨⟨rfl,Sub.mo rfl,rfl,trivial⟩,SubO.mp rfl,trivial⟩
def paF (g : Vl → Int → Vl × Bool × Int) (v : Vl) : List Vl → Int → Vl × Bool × Int
 | [],left => (v,true,left)
 | w :: l,left => if left < 0 then (v,true,left) else if (g w left).2.1 = false then ((g w left).1,false,(g w left).2.2) else paF g v l (g w left).2.2
section
variable {h : List Ob} (g : Uh h)
include g
end
variable {md me : Bool}
structure Pw (F : Vl → Int → Vl × Bool × Int) (v : Vl) (l : List Vl) (l0 : Int) where
 k : Nat
 left : Int
 le : k ≤ l.length
 lo : -1 ≤ left
 hi : left ≤ l0
 eq : paF F v (l.drop k) left = paF F v l l0
theorem pw_drop {l : List Vl} {k : Nat} (hk : k < l.length) : l.drop k = l.getD k vl0 :: l.drop (k + 1) := by
 rw [List.drop_eq_getElem_cons hk,List.getD_eq_getElem?_getD,List.getElem?_eq_getElem hk];rfl
def Pw.next {F : Vl → Int → Vl × Bool × Int} {v : Vl} {l : List Vl} {l0 : Int} (x : Pw F v l l0) (hF : ∀ w k,0 ≤ k → -1 ≤ (F w k).2.2 ∧ (F w k).2.2 ≤ k) (hk : x.k < l.length) (h0 : ¬ x.left < 0) (h1 : ¬ (F (l.getD x.k vl0) x.left).2.1 = false) : Pw F v l l0 :=
 ⟨x.k + 1,(F (l.getD x.k vl0) x.left).2.2,hk,(hF _ _ (by omega)).1,by have := (hF (l.getD x.k vl0) x.left (by omega)).2;have := x.hi;omega,by rw [← x.eq,pw_drop hk,paF,if_neg h0,if_neg h1]⟩
theorem Pw.out {F : Vl → Int → Vl × Bool × Int} {v : Vl} {l : List Vl} {l0 : Int} (x : Pw F v l l0) (hk : x.k < l.length) (h0 : x.left < 0) : paF F v l l0 = (v,true,x.left) := by rw [← x.eq,pw_drop hk,paF,if_pos h0]
theorem Pw.bad {F : Vl → Int → Vl × Bool × Int} {v : Vl} {l : List Vl} {l0 : Int} (x : Pw F v l l0) (hk : x.k < l.length) (h0 : ¬ x.left < 0) (h1 : (F (l.getD x.k vl0) x.left).2.1 = false) : paF F v l l0 = ((F (l.getD x.k vl0) x.left).1,false,(F (l.getD x.k vl0) x.left).2.2) := by rw [← x.eq,pw_drop hk,paF,if_neg h0,if_pos h1]
theorem Pw.fin {F : Vl → Int → Vl × Bool × Int} {v : Vl} {l : List Vl} {l0 : Int} (x : Pw F v l l0) (hk : ¬ x.k < l.length) : paF F v l l0 = (v,true,x.left) := by
 rw [← x.eq,List.drop_of_length_le (by omega),paF]
variable {md me : Bool}
variable {md me : Bool}
def setH (h : List Ob) (e : Vl) (k : Int) (v : Vl) : List Ob := h.set e.r.toNat { obAt h e.r with items := (obAt h e.r).items.set k.toNat v }
theorem setH_len (h : List Ob) (e : Vl) (k : Int) (v : Vl) : (setH h e k v).length = h.length := List.length_set ..
theorem sn245 {P : Program} {K : DS → Prop} {p : Prop} {r : Out} (hr : r.sat P K) (hp : p := by first | exact ⟨he.1,he.2⟩ | exact ⟨by simp [MR.len],he.2⟩ | exact ⟨rfl,he.2⟩ | exact hk | exact ⟨rfl,hk.2⟩ | exact ⟨by simp [MR.len],by simpa [MR.len] using hk.2⟩ | rfl | (simp only [MR.len];done) | first | exact trivial | omega | exact ini (by omega) (by omega) | (intro hh;simp at hh;exact ini (by omega) (by omega)) | (intro hh;simp at hh ⊢;omega) | (simp at *;omega) | (simp_all;done)) : (Out.need p r).sat P K := ⟨hp,hr⟩
theorem rSet_G (h : List Ob) (e : Vl) (k : Int) (v : Vl) (hh : h.length ≤ 4000000) (he : 0 ≤ e.r ∧ e.r.toNat < h.length) (hk : 0 ≤ k ∧ k.toNat < (obAt h e.r).items.length) (hl : (obAt h e.r).items.length ≤ 2000000) : FnG Tryz.prog 27 [.bp 0 0,.agg (vlD e),.v (.int .i64 k),.agg (vlD v)] (hpO h) (.v (.tuple #[])) (hpO (setH h e k v)) := by
 refine qT tabT Tryz.func27 rfl rfl rfl rfl rfl rfl rfl ?_;intro w0 s0 mx;refine ev_R tabT [] 100 ?_;refine zB (zZ tabT [1018] [[],[0],[0,1],[0,1,2],[],[4],[0,1,2,3,4,5],[0,1,2,3,4,5,6],[0,1,2,3,4,5,6,7],[0,1,2,3,4,5,6,7,8],[0,1,2,3,4,5,6,7,8,9]] 200 mixT (by kernel_rfl) rfl ?_);repeat (first | refine zG ?_ | refine zH ?_ | refine sn245 ?_)
 refine yD _ _ (CloneV_G (h.getD e.r.toNat ob0).items hl) rfl ?_;repeat (first | refine zG ?_ | refine zH ?_ | refine sn245 ?_)
 refine zC (zA ?_);refine yJ [0,2,5,7] [2,3] 210 [(8,.mo 109 (h.getD e.r.toNat ob0).items.length)] [(0,.box 24 [.mo 1 h.length]),(1,.mrow 52 10 (.map h obD ob0)),(109,.mrow 34 7 (.map (h.getD e.r.toNat ob0).items vlD vl0))] ?_;refine ⟨⟨⟨Sub.mo rfl,le_t⟩,⟨⟨rfl,Sub.mo rfl,rfl,trivial⟩,SubO.mp rfl,SubO.mr rfl,le_o⟩,rfl,rfl⟩,?_⟩;refine zB (zE tabT [] 300 rfl ?_);repeat (first | refine zG ?_ | refine zH ?_ | refine sn245 ?_)
 refine zC (zA ?_);refine ev_freeze 109 rfl (by repeat (first | exact trivial | exact rfl | exact (fun _ => rfl) | exact (fun h => absurd h (by decide)) | refine ⟨?_,?_⟩)) (by repeat (first | exact trivial | exact rfl | exact (fun _ => rfl) | exact (fun h => absurd h (by decide)) | refine ⟨?_,?_⟩)) ?_;refine zZ tabT [] [[],[0],[0,1],[0,1,2],[],[4],[],[0,1,2,3,4,5,6],[0,1,2,3,4,5,6,7],[0,1,2,3,4,5,6,7,8]] 400 mixT (by kernel_rfl) rfl ?_;repeat (first | refine zG ?_ | refine zH ?_ | refine sn245 ?_)
 refine zC ?_;exact FinH.normal 2 rfl rfl (Sub.refl _) ⟨⟨rfl,Sub.mo (by simp [setH]),rfl,trivial⟩,SubO.mp (upd_obI (by show D.pvs ((obD (obAt h e.r)).take 6 ++ [.own _ 7 (((obAt h e.r).items.map vlD).set k.toNat (vlD v))] ++ (obD (obAt h e.r)).drop 7) = _;rw [← List.map_set];exact ob_items _ _ _)),trivial⟩
theorem sn246 {P : Program} {K : DS → Prop} {p : Prop} {r : Out} (hr : r.sat P K) (hp : p := by first | exact ⟨hi.1,hi.2⟩ | exact ⟨by simp [MR.len],hi.2⟩ | exact ⟨rfl,hi.2⟩ | exact hk | exact ⟨rfl,hk.2⟩ | exact ⟨by simp [MR.len],by simpa [MR.len] using hk.2⟩ | rfl | (simp only [MR.len];done) | first | exact trivial | omega | exact ini (by omega) (by omega) | (intro hh;simp at hh;exact ini (by omega) (by omega)) | (intro hh;simp at hh ⊢;omega) | (simp at *;omega) | (simp_all;done)) : (Out.need p r).sat P K := ⟨hp,hr⟩
theorem set4_G (h : List Ob) (e : Vl) (s : ByteArray) (v : Vl) (hh : h.length ≤ 4000000) (he : e.k = 6 ∧ qG h e.r = true) (hn : (obAt h e.r).names.length ≤ 2000000) (hk : 0 ≤ ixI (obAt h e.r).names s ∧ (ixI (obAt h e.r).names s).toNat < (obAt h e.r).items.length) (hl : (obAt h e.r).items.length ≤ 2000000) : FnG Tryz.prog 30 [.bp 0 0,.agg (vlD e),.v (.string s),.agg (vlD v)] (hpO h) (.v (.tuple #[])) (hpO (setH h e (ixI (obAt h e.r).names s) v)) := by
 have hi := isObj_lt he.2;have eo : objS h e = obAt h e.r := objS_at (fun _ => he.2) he.1;refine qT tabT Tryz.func30 rfl rfl rfl rfl rfl rfl rfl ?_;intro w0 s0 mx;refine ev_R tabT [] 100 ?_;refine zB (zZ tabT [] [[],[0],[0,1],[],[0,1,2,3],[],[0,1,2,3,4,5]] 200 mixT (by kernel_rfl) rfl ?_);repeat (first | refine zG ?_ | refine zH ?_ | refine sn246 ?_)
 refine sat_fnL _ (Obj_ok h e) rfl rfl ?_;repeat (first | refine zG ?_ | refine zH ?_ | refine sn246 ?_)
 refine zC (zA ?_);refine yJ [0,2,5,7,8] [0,1,2,3,105] 210 [] [(105,.box 52 (obD (obAt h e.r)))] ?_;refine ⟨⟨le_t,⟨⟨rfl,by rw [eo];exact SubL.same rfl⟩,le_o⟩,rfl,rfl⟩,?_⟩;refine zB (zE tabT [1017] 300 rfl ?_);repeat (first | refine zG ?_ | refine zH ?_ | refine sn246 ?_)
 refine yD _ _ (CloneV_G (obAt h e.r).items hl) rfl ?_;repeat (first | refine zG ?_ | refine zH ?_ | refine sn246 ?_)
 refine zC (zA ?_);refine yJ [0,2,5,7,8] [2,3,105] 310 [(9,.mo 212 (obAt h e.r).items.length)] [(0,.box 24 [.mo 1 h.length]),(1,.mrow 52 10 (.map h obD ob0)),(212,.mrow 34 7 (.map (obAt h e.r).items vlD vl0))] ?_;refine ⟨⟨⟨Sub.mo rfl,le_t⟩,⟨⟨rfl,Sub.mo rfl,rfl,trivial⟩,SubO.mp rfl,SubO.mr rfl,le_o⟩,rfl,rfl⟩,?_⟩;refine zB (zZ tabT [] [[],[],[1],[],[1,2,3],[],[0,1,2,3,4,5],[0,1,2,3,4,5,6]] 400 mixT (by kernel_rfl) rfl ?_);repeat (first | refine zG ?_ | refine zH ?_ | refine sn246 ?_)
 refine zV _ (IndexS_ok (obAt h e.r).names s) rfl ?_;repeat (first | refine zG ?_ | refine zH ?_ | refine sn246 ?_)
 refine zC (zA ?_);refine ev_freeze 212 rfl (by repeat (first | exact trivial | exact rfl | exact (fun _ => rfl) | exact (fun h => absurd h (by decide)) | refine ⟨?_,?_⟩)) (by repeat (first | exact trivial | exact rfl | exact (fun _ => rfl) | exact (fun h => absurd h (by decide)) | refine ⟨?_,?_⟩)) ?_;refine zZ tabT [] [[],[0],[0,1],[0,1,2],[],[4],[],[0,1,2,3,4,5,6],[0,1,2,3,4,5,6,7],[0,1,2,3,4,5,6,7,8]] 500 mixT (by kernel_rfl) rfl ?_;repeat (first | refine zG ?_ | refine zH ?_ | refine sn246 ?_)
 refine zC ?_;exact FinH.normal 2 rfl rfl (Sub.refl _) ⟨⟨rfl,Sub.mo (by simp [setH]),rfl,trivial⟩,SubO.mp (upd_obI (by show D.pvs ((obD (obAt h e.r)).take 6 ++ [.own _ 7 (((obAt h e.r).items.map vlD).set (ixI (obAt h e.r).names s).toNat (vlD v))] ++ (obD (obAt h e.r)).drop 7) = _;rw [← List.map_set];exact ob_items _ _ _)),trivial⟩
variable {md me : Bool}
def cauB : ByteArray := ⟨#[99,97,117,115,101]⟩
def traB : ByteArray := ⟨#[116,114,97,99,101]⟩
theorem obAt_app {h : List Ob} {n : Int} {x : Ob} (hn : n.toNat < h.length) : obAt (h ++ [x]) n = obAt h n := by
 show (h ++ [x]).getD n.toNat ob0 = h.getD n.toNat ob0;rw [List.getD_eq_getElem?_getD,List.getD_eq_getElem?_getD,List.getElem?_append_left hn]
theorem isObj_app {h : List Ob} {n : Int} {x : Ob} (hn : qG h n = true) : qG (h ++ [x]) n = true := by
 have h1 := isObj_lt hn;have h2 : (h ++ [x]).getD n.toNat ob0 = h.getD n.toNat ob0 := obAt_app h1.2;unfold qG at hn ⊢;rw [h2,List.length_append,List.length_singleton];simp only [Bool.and_eq_true,decide_eq_true_eq] at hn ⊢;exact ⟨⟨hn.1.1,by have := hn.1.2;omega⟩,hn.2⟩
theorem rCause_G (h : List Ob) (e v : Vl) (hh : h.length ≤ 4000000) (he : 0 ≤ e.r ∧ e.r.toNat < h.length) (hk : 1 < (obAt h e.r).items.length) (hl : (obAt h e.r).items.length ≤ 2000000) : FnG Tryz.prog 10 [.bp 0 0,.agg (vlD e),.agg (vlD v)] (hpO h) (.v (.tuple #[])) (hpO (setH h e 1 v)) := by
 refine qT tabT Tryz.func10 rfl rfl rfl rfl rfl rfl rfl ?_;intro w0 s0 mx;refine ev_R tabT [] 100 ?_;refine zE tabT [1009] 200 rfl ?_;refine zF ?_;refine yD _ _ (rSet_G h e 1 v hh he ⟨by decide,hk⟩ hl) rfl ?_;refine zF ?_;refine zC ?_;exact FinH.normal 2 rfl rfl (Sub.refl _) ⟨⟨rfl,Sub.refl _,rfl,trivial⟩,SubO.mp rfl,trivial⟩
theorem SetCause_G (h : List Ob) (e v : Vl) (hh : h.length ≤ 4000000) (he : e.k = 6 ∧ qG h e.r = true) (hn : (obAt h e.r).names.length ≤ 2000000) (hk : 0 ≤ ixI (obAt h e.r).names cauB ∧ (ixI (obAt h e.r).names cauB).toNat < (obAt h e.r).items.length) (hl : (obAt h e.r).items.length ≤ 2000000) : FnG Tryz.prog 11 [.bp 0 0,.agg (vlD e),.agg (vlD v)] (hpO h) (.v (.tuple #[])) (hpO (setH h e (ixI (obAt h e.r).names cauB) v)) := by
 refine qT tabT Tryz.func11 rfl rfl rfl rfl rfl rfl rfl ?_;intro w0 s0 mx;refine ev_R tabT [] 100 ?_;refine zE tabT [1009] 200 rfl ?_;refine zF ?_;refine yD _ _ (set4_G h e cauB v hh he hn hk hl) rfl ?_;refine zF ?_;refine zC ?_;exact FinH.normal 2 rfl rfl (Sub.refl _) ⟨⟨rfl,Sub.refl _,rfl,trivial⟩,SubO.mp rfl,trivial⟩
theorem rBegin_G (h : List Ob) (e : Vl) (hh : h.length ≤ 3000000) (he : 0 ≤ e.r ∧ e.r.toNat < h.length) (hk : 3 < (obAt h e.r).items.length) (hl : (obAt h e.r).items.length ≤ 2000000) : FnG Tryz.prog 12 [.bp 0 0,.agg (vlD e)] (hpO h) (.v (.tuple #[])) (hpO (setH (h ++ [tpO []]) e 3 (rfV (h.length : Nat)))) := by
 have e1 : (h ++ [tpO []]).length = h.length + 1 := by simp
 have e2 : obAt (h ++ [tpO []]) e.r = obAt h e.r := obAt_app he.2;refine qT tabT Tryz.func12 rfl rfl rfl rfl rfl rfl rfl ?_;intro w0 s0 mx;refine ev_R tabT [] 100 ?_;refine zZ tabT [1007,1008] [[],[],[],[2],[0,1,2,3]] 200 mixT (by kernel_rfl) rfl ?_;refine zF ?_;refine yD _ _ ((tuple_G h [] (by omega) (by decide) (fun _ h => by cases h)).args ⟨Sub.refl _,Sub.ofP (SubP.nilSl rfl) rfl rfl,trivial⟩) rfl ?_;refine zF ?_;refine yD _ _ (rSet_G (h ++ [tpO []]) e 3 (rfV (h.length : Nat)) (by omega) ⟨he.1,by have := he.2;omega⟩ ⟨by decide,by rw [e2];exact hk⟩ (by rw [e2];exact hl)) rfl ?_;refine zF ?_;refine zC ?_;exact FinH.normal 2 rfl rfl (Sub.refl _) ⟨⟨rfl,Sub.refl _,rfl,trivial⟩,SubO.mp rfl,trivial⟩
theorem Blank_G (h : List Ob) (e : Vl) (hh : h.length ≤ 3000000) (he : e.k = 6 ∧ qG h e.r = true) (hn : (obAt h e.r).names.length ≤ 2000000) (hk : 0 ≤ ixI (obAt h e.r).names traB ∧ (ixI (obAt h e.r).names traB).toNat < (obAt h e.r).items.length) (hl : (obAt h e.r).items.length ≤ 2000000) : FnG Tryz.prog 13 [.bp 0 0,.agg (vlD e)] (hpO h) (.v (.tuple #[])) (hpO (setH (h ++ [tpO []]) e (ixI (obAt h e.r).names traB) (rfV (h.length : Nat)))) := by
 have e1 : (h ++ [tpO []]).length = h.length + 1 := by simp
 have hi := isObj_lt he.2;have e2 : obAt (h ++ [tpO []]) e.r = obAt h e.r := obAt_app hi.2;refine qT tabT Tryz.func13 rfl rfl rfl rfl rfl rfl rfl ?_;intro w0 s0 mx;refine ev_R tabT [] 100 ?_;refine zZ tabT [1008,1009] [[],[],[],[],[2,3],[0,1,2,3,4]] 200 mixT (by kernel_rfl) rfl ?_;refine zF ?_;refine yD _ _ ((Make_G h (tpO []) (by omega)).args ⟨Sub.refl _,Sub.ofP (SubP.agg ⟨SubP.refl _,SubP.refl _,SubP.refl _,SubP.nilSl rfl,SubP.nilSl rfl,SubP.nilSl rfl,SubP.nilSl rfl,SubP.nilSl rfl,SubP.refl _,SubP.refl _,trivial⟩) rfl rfl,trivial⟩) rfl ?_;refine zF ?_
 refine yD _ _ (by
   have h9 := set4_G (h ++ [tpO []]) e traB (rfV (h.length : Nat)) (by omega) ⟨he.1,isObj_app he.2⟩ (by rw [e2];exact hn) (by rw [e2];exact hk) (by rw [e2];exact hl);rw [e2] at h9;exact h9) rfl ?_
 refine zF ?_;refine zC ?_;exact FinH.normal 2 rfl rfl (Sub.refl _) ⟨⟨rfl,Sub.refl _,rfl,trivial⟩,SubO.mp rfl,trivial⟩
variable {md me : Bool}
def g4S (h : List Ob) (e : Vl) (s : ByteArray) : Vl := ownV (objS h e) s
theorem raisingGet_ok (h : List Ob) (e : Vl) (i : Int) (hn : inH h e.r) (hi : 0 ≤ i ∧ i.toNat < (obAt h e.r).items.length) : Fn Tryz.prog 26 [hpD md h,.agg (vlD e),.v (.int .i64 i)] (.agg (vlD ((obAt h e.r).items.getD i.toNat vl0))) := by
 refine yK tabT Tryz.func26 rfl rfl rfl rfl rfl rfl ?_;intro w0 s0 mx;refine ev_R tabT [] 100 ?_;refine zB (zE tabT [] 200 rfl ?_);repeat (first | refine zG ?_ | refine zH ?_ | refine zQ (by first | exact hn | exact hi) ?_)
 refine zC (zA (zO ?_));exact FinV.ret rfl (SubP.refl _)
variable {md me : Bool}
theorem pk_rng (l : List Vl) (n : Int) (h0 : 0 < l.length) : 0 ≤ (n.tmod l.length + l.length).tmod l.length ∧ (n.tmod l.length + l.length).tmod l.length < l.length ∧ -(l.length : Int) < n.tmod l.length ∧ n.tmod l.length < l.length := by
 have h1 : (0 : Int) < l.length := by omega
 have h2 := Int.lt_tmod_of_pos n h1;have h3 := Int.tmod_lt_of_pos n h1;exact ⟨Int.tmod_nonneg _ (by omega),Int.tmod_lt_of_pos _ h1,h2,h3⟩
theorem pick_ok (l : List Vl) (n : Int) (h0 : 0 < l.length) (hl : l.length ≤ 2000000) (h1 : -9223372036854775808 ≤ n) (h2 : n ≤ 9223372036854775807) : Fn Tryz.prog 7 [vsD l,.v (.int .i64 n)] (.agg (vlD (l.getD ((n.tmod l.length + l.length).tmod l.length).toNat vl0))) := by
 have hp := pk_rng l n h0;refine yK tabT Tryz.func7 rfl rfl rfl rfl rfl rfl ?_;intro w0 s0 mx;refine ev_R tabT [] 100 ?_;refine zB (zE tabT [] 200 rfl ?_);repeat (first | refine zG ?_ | refine zH ?_ | refine zQ (by first | exact ⟨hp.1,by omega⟩ | omega | first | exact trivial | omega | exact ini (by omega) (by omega) | (intro hh;simp at hh;exact ini (by omega) (by omega)) | (intro hh;simp at hh ⊢;omega) | (simp at *;omega) | (simp_all;done)) ?_)
 refine zC (zA (zO ?_));exact FinV.ret rfl (SubP.refl _)
theorem Get4x_ok (h : List Ob) (e : Vl) (s : ByteArray) (hn : (objS h e).names.length ≤ (objS h e).items.length) (hl : (objS h e).names.length ≤ 2000000) : Fn Tryz.prog 29 [hpD md h,.agg (vlD e),.v (.string s)] (.agg (vlD (g4S h e s))) := by
 refine yK tabT Tryz.func29 rfl rfl rfl rfl rfl rfl ?_;intro w0 s0 mx;refine ev_R tabT [] 100 ?_;refine zB (zE tabT [] 200 rfl ?_);refine zF ?_;refine zV _ (Obj_ok _ _) rfl ?_;refine zF ?_;refine zV _ (Own_ok _ _ hn hl) rfl ?_;refine zF ?_;refine zC (zA ?_);refine ev_R tabT [] 300 ?_;refine zO ?_;exact FinV.ret rfl (SubP.refl _)
theorem vok_lim {v : Vl} (h : vokS v = true) : v.nl.length ≤ 128 ∧ v.dl.length ≤ 128 ∧ v.s.size ≤ 4000 := by
 have hz : ∀ {b : Bool} {l : List Nat},zI b l = true → l.length ≤ 128 := fun h => by rw [zI,smI_iff] at h;rw [h.2];decide
 have hi : ∀ {b : Bool} {l : List Nat},intOk b l = true → l.length ≤ 128 := fun h => by
  simp only [intOk,Bool.and_eq_true,decide_eq_true_eq] at h;exact h.1
 have he : ∀ {s : ByteArray},emS s = true → s.size ≤ 4000 := fun h => by
  have := of_decide_eq_true h;subst this;decide
 unfold vokS at h;repeat' split at h
 all_goals (try simp only [Bool.and_eq_true,decide_eq_true_eq] at h)
 ·exact ⟨hz h.1.1.1,hz h.1.1.2,he h.1.2⟩
 ·exact ⟨hz h.1.1.1,hz h.1.1.2,he h.1.2⟩
 ·exact ⟨hi h.1.1.1,hz h.1.1.2,he h.1.2⟩
 ·have hr := h.1.1.1;simp only [ratS,Bool.and_eq_true] at hr;exact ⟨hi hr.1.1.1,hi hr.1.1.2,he h.1.2⟩
 ·exact ⟨hz h.1.1.1.1,hz h.1.1.1.2,by have := h.2;omega⟩
 ·exact ⟨hz h.1.1.1,hz h.1.1.2,by have := h.2;omega⟩
 ·have hd := h.2;simp only [dotS,Bool.and_eq_true,decide_eq_true_eq] at hd;exact ⟨hz h.1.1.1,hz h.1.1.2,by have := hd.2;omega⟩
 ·exact ⟨hz h.1.1,hz h.1.2,he h.2⟩
 ·cases h
theorem vok_cV {v : Vl} (h : vokS v = true) : cV v ≤ 2108 + 10 * v.s.size := by
 have := vok_lim h;unfold cV;omega
theorem fix_lim (o : Ob) (v : Vl) : cV (fixV o v) = cV v ∧ (fixV o v).s = v.s := by
 unfold fixV;split <;> exact ⟨rfl,rfl⟩
theorem cVs_le : ∀ {l : List Vl},(∀ v ∈ l,cV v ≤ 2108 + 10 * v.s.size) → cVs l ≤ 2108 * l.length + 10 * (l.map fun v => v.s.size).sum + 1
 | [],_ => Nat.le_refl _
 | v :: l,h => by
  have h1 := h v List.mem_cons_self;have h2 := cVs_le (l := l) fun x hx => h x (List.mem_cons_of_mem _ hx);unfold cVs at h2 ⊢;rw [List.map_cons,List.sum_cons,List.map_cons,List.sum_cons,List.length_cons];omega
theorem sumN_range (f : Nat → Nat) : ∀ n,sumN f n = ((List.range n).map f).sum
 | 0 => rfl
 | n + 1 => by rw [sumN,sumN_range f n,List.range_succ,List.map_append,List.sum_append,List.map_singleton,List.sum_singleton]
theorem range_getD {α : Type} (g : α → Nat) (d : α) : ∀ l : List α,((List.range l.length).map fun j => g (l.getD j d)).sum = (l.map g).sum
 | [] => rfl
 | x :: l => by
  rw [List.length_cons,List.range_succ_eq_map,List.map_cons,List.sum_cons,List.map_map,List.map_cons,List.sum_cons,← range_getD g d l];rfl
theorem bytO_eq (o : Ob) : bytO o (kvs o).length = ((kvs o).map fun v => v.s.size).sum := by
 rw [bytO,sumN_range];exact range_getD (fun v : Vl => v.s.size) vl0 (kvs o)
theorem nmF_ok : ∀ {l seen : List ByteArray},nmF seen l = 0 → ∀ s ∈ l,nameOkS s = true
 | [],_,_,_,h => by cases h
 | x :: l,seen,h,s,hs => by
  rw [nmF] at h;split at h
  ·cases h
  ·rename_i h1;split at h
   ·cases h
   ·rcases List.mem_cons.1 hs with rfl | hs
    ·simpa using h1
    ·exact nmF_ok h s hs
theorem nameOk_size {s : ByteArray} (h : nameOkS s = true) : s.size ≤ 24 := by
 simp only [nameOkS,Bool.and_eq_true,Bool.not_eq_true',Bool.or_eq_false_iff,decide_eq_false_iff_not] at h;have := h.1.2;omega
theorem names_sum : ∀ {l : List ByteArray},(∀ s ∈ l,s.size ≤ 24) → (l.map fun s => s.size + 1).sum ≤ 25 * l.length
 | [],_ => Nat.le_refl _
 | s :: l,h => by
  have h1 := h s List.mem_cons_self;have h2 := names_sum (l := l) fun x hx => h x (List.mem_cons_of_mem _ hx);rw [List.map_cons,List.sum_cons,List.length_cons];omega
theorem name_size {o : Ob} (hs : qO o = 0) (hz : sizesS o = 0) : o.name.size ≤ 60 := by
 by_cases hc : Lib.contains (usedS o.kind).data.toList [110] = true
 ·unfold sizesS at hz;rw [hc,Bool.true_and] at hz;split at hz
  ·cases hz
  ·rename_i h1;have h1 : nameS o = true := by simpa using h1
   unfold nameS at h1;split at h1
   ·simp only [dotS,Bool.and_eq_true,decide_eq_true_eq] at h1;have := h1.2;omega
   ·have := nameOk_size h1;omega
 ·unfold qO at hs;split at hs
  ·rename_i h1;have h2 := List.all_eq_true.1 h1 0 (by decide);have e : (lettersB.extract ((0 : Nat) : Int).toNat (((0 : Nat) : Int) + 1).toNat).data.toList = [110] := by decide +kernel
   unfold ltP at h2;rw [e] at h2;have hc : Lib.contains (usedS o.kind).data.toList [110] = false := by simpa using hc
   rw [hc] at h2;have h3 : decide (o.name = ⟨#[]⟩) = true := by simpa [emptyS] using h2
   have := of_decide_eq_true h3;rw [this];decide
  ·cases hs
theorem sizes_le {o : Ob} (hz : sizesS o = 0) : o.names.length ≤ 200 ∧ o.items.length ≤ 1000 ∧ o.keys.length ≤ 1000 ∧ o.refs.length ≤ 1000 := by
 unfold sizesS at hz;split at hz
 ·cases hz
 ·split at hz
  ·cases hz
  ·rename_i h2;simp only [Bool.or_eq_true,decide_eq_true_eq,not_or] at h2;obtain ⟨h3,h4⟩ := h2;unfold mx3 at h3;repeat' split at h3
   all_goals omega
theorem order_le {h : List Ob} {o : Ob} {i : Int} (hs : qO o = 0) (ho : orderOkS h o i = true) : o.order.length ≤ 40 := by
 by_cases hk : o.kind = 9
 ·unfold orderOkS at ho;rw [if_neg (fun hh => hh hk)] at ho;simp only [Bool.and_eq_true,decide_eq_true_eq] at ho;rw [ho.2,List.length_append];have : (orderS (ordsS h o)).1.length ≤ 39 := by
   unfold orderS;repeat' split
   ·exact Nat.zero_le _
   ·exact Nat.zero_le _
   ·exact Nat.zero_le _
   ·show (mgS (ordsS h o)).1.length ≤ 39;omega
  show 1 + _ ≤ _;omega
 ·rw [(sh_of hs).2.2.2.2 hk];exact Nat.zero_le _
theorem cO_hi {h : List Ob} {o : Ob} {i : Nat} (g : Uho h o i) : cO o ≤ 6704 + 2108 * (o.items.length + o.keys.length + o.refs.length) + 10 * ((kvs o).map fun v => v.s.size).sum := by
 have v := vs_of g.vals;have h1 := name_size g.shape g.sizes;have h2 := sizes_le g.sizes;have h3 := order_le g.shape g.order;have h4 := names_sum fun s hs => nameOk_size (nmF_ok g.names s hs);have hv : ∀ x ∈ o.keys ++ o.items,cV x ≤ 2108 + 10 * x.s.size := fun x hx => by
  have e := fix_lim o x;have := vok_cV (v.ok x hx);rw [e.1,e.2] at this;exact this
 have h5 := cVs_le (l := o.keys) fun x hx => hv x (List.mem_append.2 (.inl hx));have h6 := cVs_le (l := o.items) fun x hx => hv x (List.mem_append.2 (.inr hx));have h7 : ((kvs o).map fun v => v.s.size).sum = (o.items.map fun v => v.s.size).sum + (o.keys.map fun v => v.s.size).sum := by
  rw [kvs,List.map_append,List.sum_append]
 have hc : cO o = 120 + 10 * o.name.size + (o.names.map fun s => s.size + 1).sum + 23 * o.refs.length + 23 * o.order.length + cVs o.keys + cVs o.items := rfl;rw [hc,h7];omega
theorem bg_ok : (List.range 49).all (fun i => decide (cO (bgO i) ≤ 6704) && (((bgO i).refs.all fun n => decide (0 ≤ n) && decide (n < 49)) && ((bgO i).order.all fun n => decide (0 ≤ n) && decide (n < 49)))) = true := by decide +kernel
theorem bgc_at {i : Nat} (hi : i < 49) : cO (bgO i) ≤ 6704 ∧ (∀ n ∈ (bgO i).refs,0 ≤ n ∧ n < 49) ∧ ∀ n ∈ (bgO i).order,0 ≤ n ∧ n < 49 := by
 have h := List.all_eq_true.1 bg_ok i (List.mem_range.2 hi);simp only [Bool.and_eq_true,decide_eq_true_eq,List.all_eq_true] at h;exact ⟨h.1,h.2.1,h.2.2⟩
theorem obAt_getD (h : List Ob) (i : Nat) : obAt h (i : Nat) = h.getD i ob0 := by
 show h.getD ((i : Nat) : Int).toNat ob0 = _;rw [Int.toNat_natCast]
theorem inH_rng {h : List Ob} {n : Int} (hn : qG h n = true) : 0 ≤ n ∧ n < (h.length : Int) := by
 have := isObj_lt hn;omega
theorem uh_obC {h : List Ob} (g : Uh h) (hh : HpIn h) {i : Nat} (hi : i < h.length) : ObC h.length (obAt h i) := by
 have hin := hh.at (i : Nat);have hlo := g.lo;by_cases h49 : i < 49
 ·have e := g.lo_at h49;have hb := bgc_at h49;rw [e] at hin ⊢;exact ⟨hin,fun hk => absurd hk (by show ¬ (9 : Int) = 18;decide),fun hk => absurd hk (by show ¬ ((9 : Int) = 10 ∨ (9 : Int) = 7);decide),fun n hn => by have := hb.2.1 n hn;omega,fun n hn => by have := hb.2.2 n hn;omega,(fun v hv => by cases hv),(fun v hv => by cases hv)⟩
 ·have u := g.hi_at (by omega) hi;have v := vs_of u.vals;refine ⟨hin,fun hk => ?_,fun _ => (inH_rng v.cls).2,fun n hn => inH_rng (v.refs n hn),fun n hn => inH_rng (v.order n hn),fun x hx => ⟨hin.kv x hx,fun hk => (inH_rng (v.vals x (List.mem_append.2 (.inl hx)) hk)).2⟩,fun x hx => ⟨hin.iv x hx,fun hk => (inH_rng (v.vals x (List.mem_append.2 (.inr hx)) hk)).2⟩⟩;have hst := (sh_of u.shape).2.2.1;by_cases h0 : (obAt h i).state = 0
  ·omega
  ·have h1 := v.weak hk h0;rw [wrap_pred (by omega) hin.st.2] at h1;exact (inH_rng h1).2
theorem mem_obAt {h : List Ob} {o : Ob} (ho : o ∈ h) : ∃ i,i < h.length ∧ o = obAt h (i : Nat) := by
 obtain ⟨i,hi,e⟩ := List.getElem_of_mem ho;exact ⟨i,hi,by rw [obAt_getD,List.getD_eq_getElem?_getD,List.getElem?_eq_getElem hi,← e];rfl⟩
theorem uh_hpC {h : List Ob} (g : Uh h) (hh : HpIn h) : HpC h := fun o ho => by
 obtain ⟨i,hi,rfl⟩ := mem_obAt ho;exact uh_obC g hh hi
theorem cH_map (h : List Ob) : cH h = (h.map cO).sum := range_getD cO ob0 h
theorem pr_sums {h : List Ob} (hp : (qC h).1 = 0) : sumN (nodN h) h.length ≤ 20000 ∧ sumN (bytN h) h.length ≤ 200000 := by
 have g := uh_of hp;unfold qC at hp;rw [if_neg (by have := g.hi;omega),if_neg (by have := g.lo;omega)] at hp;have hn : (List.range h.length).find? (fun i => !decide (codeS h i = 0)) = none := by
  rw [List.find?_range_eq_none];intro i hi;simp [g.code i hi]
 rw [hn] at hp
 dsimp only at hp
 split at hp
 ·cases hp
 ·omega
theorem sum_le3 {f a b : Nat → Nat} {c : Nat} : ∀ {n : Nat},(∀ i,i < n → f i ≤ c + 2108 * a i + 10 * b i) → ((List.range n).map f).sum ≤ c * n + 2108 * ((List.range n).map a).sum + 10 * ((List.range n).map b).sum
 | 0,_ => Nat.zero_le _
 | n + 1,h => by
  have h1 := sum_le3 (n := n) fun i hi => h i (by omega);have h2 := h n (by omega);rw [List.range_succ,List.map_append,List.sum_append,List.map_append,List.sum_append,List.map_append,List.sum_append,List.map_singleton,List.map_singleton,List.map_singleton,List.sum_singleton,List.sum_singleton,List.sum_singleton,Nat.mul_succ];omega
theorem uh_cost {h : List Ob} (hp : (qC h).1 = 0) : cH h ≤ 80000000 := by
 have g := uh_of hp;have hs := pr_sums hp;rw [sumN_range,sumN_range] at hs;have h1 : cH h ≤ 6704 * h.length + 2108 * ((List.range h.length).map (nodN h)).sum + 10 * ((List.range h.length).map (bytN h)).sum := by
  refine sum_le3 fun i hi => ?_;rw [← obAt_getD];by_cases h49 : i < 49
  ·have hb := (bgc_at h49).1;rw [g.lo_at h49];omega
  ·have hc := cO_hi (g.hi_at (by omega) hi);have e1 : nodN h i = (obAt h i).items.length + (obAt h i).keys.length + (obAt h i).refs.length := if_neg (by omega);have e2 : bytN h i = bytO (obAt h i) (kvs (obAt h i)).length := if_neg (by omega);rw [e1,e2,bytO_eq];exact hc
 have := g.hi;omega
theorem set_sum (f : Ob → Nat) : ∀ (h : List Ob) (r : Nat) (o : Ob),((h.set r o).map f).sum ≤ (h.map f).sum + f o
 | [],_,_ => Nat.zero_le _
 | x :: h,0,o => by
  show (((o :: h).map f).sum ≤ _);rw [List.map_cons,List.sum_cons,List.map_cons,List.sum_cons];omega
 | x :: h,r + 1,o => by
  have := set_sum f h r o;show (((x :: h.set r o).map f).sum ≤ _);rw [List.map_cons,List.sum_cons,List.map_cons,List.sum_cons];omega
theorem cH_set (h : List Ob) (r : Nat) (o : Ob) : cH (h.set r o) ≤ cH h + cO o := by
 rw [cH_map,cH_map];exact set_sum cO h r o
theorem cH_app (h : List Ob) (o : Ob) : cH (h ++ [o]) = cH h + cO o := by
 rw [cH_map,cH_map,List.map_append,List.sum_append,List.map_singleton,List.sum_singleton]
theorem hpC_set {h : List Ob} (hh : HpC h) {r : Nat} {o : Ob} (ho : ObC h.length o) : HpC (h.set r o) := fun x hx => by
 rw [List.length_set];rcases List.mem_or_eq_of_mem_set hx with hx | rfl
 ·exact hh x hx
 ·exact ho
theorem nuV_inI {n : Int} (h0 : -9223372036854775808 ≤ n) (h1 : n ≤ 9223372036854775807) : VlIn (nuV n) ∧ (nuV n).nl.length ≤ 2 := by
 have hl : (nuV n).nl.length ≤ 2 := lim_length_le (k := 2) (by show n.natAbs < _;omega);exact ⟨⟨(by decide : (-9223372036854775808 : Int) ≤ 2),(by decide : (2 : Int) ≤ 9223372036854775807),(by decide : (-9223372036854775808 : Int) ≤ 0),(by decide : (0 : Int) ≤ 9223372036854775807),lim_Dg _,(fun _ h => by cases h),by omega,(by decide : 0 ≤ 2000000),(by decide : ByteArray.empty.size ≤ 2000000)⟩,hl⟩
theorem nuV_cV {n : Int} (h0 : -9223372036854775808 ≤ n) (h1 : n ≤ 9223372036854775807) : cV (nuV n) ≤ 76 := by
 have h := (nuV_inI h0 h1).2;have e : cV (nuV n) = 60 + 10 * 0 + 8 * (nuV n).nl.length + 8 * 0 := rfl;omega
theorem nuV_C {N : Nat} {n : Int} (h0 : -9223372036854775808 ≤ n) (h1 : n ≤ 9223372036854775807) : VlC N (nuV n) := ⟨(nuV_inI h0 h1).1,fun hk => absurd hk (by show ¬ (2 : Int) = 6;decide)⟩
theorem byV_C {N : Nat} {t : ByteArray} (ht : t.size ≤ 2000000) : VlC N (byV t) := ⟨⟨(by decide : (-9223372036854775808 : Int) ≤ 5),(by decide : (5 : Int) ≤ 9223372036854775807),(by decide : (-9223372036854775808 : Int) ≤ 0),(by decide : (0 : Int) ≤ 9223372036854775807),(fun _ h => by cases h),(fun _ h => by cases h),(by decide : 0 ≤ 2000000),(by decide : 0 ≤ 2000000),ht⟩,fun hk => absurd hk (by show ¬ (5 : Int) = 6;decide)⟩
theorem vl0_C (N : Nat) : VlC N vl0 := ⟨vl0_in,fun hk => absurd hk (by show ¬ (0 : Int) = 6;decide)⟩
theorem cV_in {v : Vl} (h : VlIn v) : cV v ≤ 52000060 := by
 have := h.s;have := h.nn;have := h.dn;unfold cV;omega
structure StC (N : Nat) (s : St) : Prop where
 i : StI s
 t : s.s.size ≤ 2000000
 v : VlC N s.v
 w : VlC N s.w
 l : ∀ x ∈ s.l,VlC N x
 cl : cVs s.l ≤ 300000000
theorem spW_C {N : Nat} {s : St} (h : StC N s) : (∀ x ∈ spW s,VlC N x) ∧ (∀ x ∈ spW s,True) ∧ cVs (spW s) ≤ 450000000 := by
 have h1 := nuV_C (N := N) h.i.k1 h.i.k2;have h2 := nuV_C (N := N) h.i.c1 h.i.c2;have hl := h.i.l;have h3 := nuV_C (N := N) (n := (s.l.length : Nat)) (by omega) (by omega);refine ⟨fun x hx => ?_,fun _ _ => trivial,?_⟩
 ·unfold spW spV at hx;simp only [List.mem_cons] at hx;rcases hx with rfl | rfl | rfl | rfl | rfl | rfl | hx
  ·exact h3
  ·exact h1
  ·exact h2
  ·exact byV_C h.t
  ·exact h.v
  ·exact h.w
  ·exact h.l x hx
 ·have c1 := nuV_cV h.i.k1 h.i.k2;have c2 := nuV_cV h.i.c1 h.i.c2;have c3 := nuV_cV (n := (s.l.length : Nat)) (by omega) (by omega);have c4 : cV (byV s.s) = 60 + 10 * s.s.size + 8 * 0 + 8 * 0 := rfl;have c5 := cV_in h.v.vin;have c6 := cV_in h.w.vin;have ht := h.t;have c7 := h.cl;unfold cVs at c7 ⊢;unfold spW spV;simp only [List.map_cons,List.sum_cons];omega
theorem skc_step {h : List Ob} {s : St} (hc : HpC h) (hn : h.length ≤ 2000000) (hs : StC h.length s) (hq : cH h ≤ 600000000) : Skc h (pvS [s]) := by
 obtain ⟨h1,_,h3⟩ := spW_C hs;have e : pvS [s] = spW s := by simp [pvS]
 have hl := spW_len hs.i;exact ⟨hc,hn,by rw [e];exact h1,by rw [e];omega,by rw [e];omega⟩
theorem sameE_self {h a : List Ob} {l : List St} {s : St} (hl : h.length ≤ a.length) : sameE h a l s a l s = true := by
 unfold sameE;have : (h.length : Int) ≤ (a.length : Int) := by omega
 simp [this]
def Gv (h : List Ob) (v : Vl) : Prop := vokS v = true ∧ VlC h.length v
theorem has_gv {h : List Ob} {v : Vl} (hi : VlIn v) (hh : hasS h v = true) : Gv h v := by
 refine ⟨?_,hi,fun hk => (inH_rng (has_obj hh hk)).2⟩;simp only [hasS,Bool.and_eq_true] at hh;exact hh.1
variable {md me : Bool}
theorem tx_in {s : ByteArray} (hs : s.size ≤ 2000000) : VlIn (txV s) := ⟨(by decide : (-9223372036854775808 : Int) ≤ 4),(by decide : (4 : Int) ≤ 9223372036854775807),(by decide : (-9223372036854775808 : Int) ≤ 0),(by decide : (0 : Int) ≤ 9223372036854775807),(fun _ h => by cases h),(fun _ h => by cases h),(by decide : 0 ≤ 2000000),(by decide : 0 ≤ 2000000),hs⟩
theorem mk_min (L : List Vl) : (L.drop (Int.toNat 0)).take ((if (999 : Int) < (L.length : Int) then (999 : Int) else (L.length : Int)).toNat - Int.toNat 0) = L.take (min L.length 999) := by
 rw [show Int.toNat 0 = 0 from rfl,List.drop_zero,Nat.sub_zero];congr 1;split <;> omega
def mkT (h : List Ob) (s : ByteArray) (n : Int) : List Ob := h ++ [tpO [txV s,nuV n]]
def mkL (h : List Ob) (e : Vl) : List Vl := (obAt h ((obAt h e.r).items.getD 3 vl0).r).items
def mkA (h : List Ob) (e : Vl) (s : ByteArray) (n : Int) : List Ob := mkT h s n ++ [tpO (rfV (h.length : Nat) :: (mkL h e).take (min (mkL h e).length 999))]
def mkH (h : List Ob) (e : Vl) (s : ByteArray) (n : Int) : List Ob := setH (mkA h e s n) e 3 (rfV ((mkT h s n).length : Nat))
theorem sn247 {P : Program} {K : DS → Prop} {p : Prop} {r : Out} (hr : r.sat P K) (hp : p := by first | exact ⟨by show 0 ≤ ((obAt (mkT h s n) e.r).items.getD 3 vl0).r;rw [e2];exact ht.1,by show ((obAt (mkT h s n) e.r).items.getD 3 vl0).r.toNat < (mkT h s n).length;rw [e2];have := ht.2;omega⟩ | exact ⟨rfl,by show ((obAt (mkT h s n) e.r).items.getD 3 vl0).r.toNat < (mkT h s n).length;rw [e2];have := ht.2;omega⟩ | first | exact trivial | omega | exact ini (by omega) (by omega) | (intro hh;simp at hh;exact ini (by omega) (by omega)) | (intro hh;simp at hh ⊢;omega) | (simp at *;omega) | (simp_all;done)) : (Out.need p r).sat P K := ⟨hp,hr⟩
theorem rMark_G (h : List Ob) (e : Vl) (s : ByteArray) (n : Int) (hh : h.length ≤ 3000000) (he : 0 ≤ e.r ∧ e.r.toNat < h.length) (hk : 3 < (obAt h e.r).items.length) (hl : (obAt h e.r).items.length ≤ 2000000) (ht : 0 ≤ ((obAt h e.r).items.getD 3 vl0).r ∧ ((obAt h e.r).items.getD 3 vl0).r.toNat < h.length) (hm : (mkL h e).length ≤ 2000000) (hv : ∀ v ∈ mkL h e,VlIn v) (hs : s.size ≤ 2000000) (h1 : -9223372036854775808 ≤ n) (h2 : n ≤ 9223372036854775807) : FnG Tryz.prog 14 [.bp 0 0,.agg (vlD e),.v (.string s),.v (.int .i64 n)] (hpO h) (.v (.tuple #[])) (hpO (mkH h e s n)) := by
 have e1 : (mkT h s n).length = h.length + 1 := by simp [mkT]
 have e2 : obAt (mkT h s n) e.r = obAt h e.r := obAt_app he.2;have e3 : ((h ++ [tpO [txV s,nuV n]]).getD ((obAt (mkT h s n) e.r).items.getD (Int.toNat 3) vl0).r.toNat ob0).items = mkL h e := by rw [e2];exact congrArg Ob.items (obAt_app (x := tpO [txV s,nuV n]) ht.2)
 refine qT tabT Tryz.func14 rfl rfl rfl rfl rfl rfl rfl ?_;intro w0 s0 mx;refine ev_R tabT [] 100 ?_;refine zB (zE tabT [1016] 200 rfl ?_);refine zF ?_;refine zV _ (heapText_ok s) rfl ?_;refine zF ?_;refine zV _ (heapInt_ok n h1 h2) rfl ?_;refine zF ?_;refine yD _ _ ((tuple_G h [txV s,nuV n] (by omega) (by show 2 ≤ 2000000;decide) (fun v hv => by
   simp only [List.mem_cons,List.not_mem_nil,or_false] at hv;rcases hv with rfl | rfl
   ·exact tx_in hs
   ·exact (nuV_inI h1 h2).1)).args ⟨Sub.refl _,Sub.ofP (SubP.slrSl rfl) rfl rfl,trivial⟩) rfl ?_
 refine zF ?_;refine zC (zA ?_);refine zB (zZ tabT [] [[],[0],[0,1],[0,1,2],[],[4],[4,5],[],[4,5,6,7],[4,5,6,7,8],[0,1,2,3,4,5,6,7,8,9],[0,1,2,3,4,5,6,7,8,9,10],[0,1,2,3,4,5,6,7,8,9,10,11],[0,1,2,3,4,5,6,7,8,9,10,11,12]] 300 mixT (by kernel_rfl) rfl ?_);repeat (first | refine zG ?_ | refine zH ?_ | refine sn247 ?_)
 refine sat_fnL _ (raisingGet_ok (mkT h s n) e 3 ⟨he.1,by have := he.2;omega⟩ ⟨by decide,by rw [e2];exact hk⟩) rfl rfl ?_;repeat (first | refine zG ?_ | refine zH ?_ | refine sn247 ?_)
 refine zC (zA ?_);refine zZ tabT [34,1041,1042] [[],[],[],[],[3],[],[],[6],[6,7],[5,6,7,8],[3,4,5,6,7,8,9],[2,3,4,5,6,7,8,9,10],[0,1,2,3,4,5,6,7,8,9,10,11]] 400 mixT (by kernel_rfl) rfl ?_;refine zF ?_;refine yD _ _ ((tuple_G (mkT h s n) (rfV (h.length : Nat) :: (mkL h e).take (min (mkL h e).length 999)) (by omega) (by rw [List.length_cons,List.length_take];omega) (fun v hv2 => by
   rcases List.mem_cons.1 hv2 with rfl | h9
   ·exact rf_in (by omega)
   ·exact hv v (List.mem_of_mem_take h9))).args ⟨Sub.refl _,Sub.ofP (SubP.slrSl (by show (vlD (rfV (h.length : Nat)) :: List.map vlD (List.take ((if (999 : Int) < (((h ++ [tpO [txV s,nuV n]]).getD ((obAt (mkT h s n) e.r).items.getD (Int.toNat 3) vl0).r.toNat ob0).items.length : Int) then (999 : Int) else (((h ++ [tpO [txV s,nuV n]]).getD ((obAt (mkT h s n) e.r).items.getD (Int.toNat 3) vl0).r.toNat ob0).items.length : Int)).toNat - Int.toNat 0) (List.drop (Int.toNat 0) ((h ++ [tpO [txV s,nuV n]]).getD ((obAt (mkT h s n) e.r).items.getD (Int.toNat 3) vl0).r.toNat ob0).items))) = _;rw [e3,mk_min];rfl)) rfl rfl,trivial⟩) rfl ?_
 refine zF ?_;refine yD _ _ (rSet_G (mkA h e s n) e 3 (rfV ((mkT h s n).length : Nat)) (by simp [mkA];omega) ⟨he.1,by have := he.2;simp [mkA];omega⟩ ⟨by decide,by rw [mkA,obAt_app (by have := he.2;omega),e2];exact hk⟩ (by rw [mkA,obAt_app (by have := he.2;omega),e2];exact hl)) rfl ?_;refine zF ?_;refine zC ?_;exact FinH.normal 2 rfl rfl (Sub.refl _) ⟨⟨rfl,Sub.refl _,rfl,trivial⟩,SubO.mp rfl,trivial⟩
variable {md me : Bool}
theorem List4x_ok (h : List Ob) (e : Vl) (s : ByteArray) (hn : (objS h e).names.length ≤ (objS h e).items.length) (hl : (objS h e).names.length ≤ 2000000) : Fn Tryz.prog 37 [hpD md h,.agg (vlD e),.v (.string s)] (vsD (objS h (g4S h e s)).items) := by
 refine yK tabT Tryz.func37 rfl rfl rfl rfl rfl rfl ?_;intro w0 s0 mx;refine ev_R tabT [] 100 ?_;refine zB (zZ tabT [] [[],[],[],[],[1,2,3],[0,1,2,3,4],[0,1,2,3,4,5],[0,1,2,3,4,5,6]] 200 mixT (by kernel_rfl) rfl ?_);refine zF ?_;refine zV _ (Get4x_ok h e s hn hl) rfl ?_;refine zF ?_;refine zV _ (Obj_ok _ _) rfl ?_;refine zF ?_;refine zC (zA (zO ?_));exact FinV.ret rfl (SubP.refl _)
def conB : ByteArray := ⟨#[99,111,110,116,101,120,116]⟩
def itO (o : Ob) (l : List Vl) : Ob := ⟨o.kind,o.name,o.cls,o.refs,o.order,o.names,l,o.keys,o.code,o.state⟩
structure Xo (E : Int → Prop) (h : List Ob) (n : Int) : Prop where
 ob : qG h n = true
 kind : (obAt h n).kind = 10
 names : ∃ t,(obAt h n).names = exN ++ t
 len : (obAt h n).items.length = (obAt h n).names.length
 nl : (obAt h n).names.length ≤ 200
 ba : cO (itO (obAt h n) []) ≤ 40000
 cau : ∀ j,j = 1 ∨ j = 2 → ((obAt h n).items.getD j vl0).k = 0 ∨ ((obAt h n).items.getD j vl0).k = 6 ∧ E ((obAt h n).items.getD j vl0).r
 tk : ((obAt h n).items.getD 3 vl0).k = 6
 tr : qG h ((obAt h n).items.getD 3 vl0).r = true
 tq : (obAt h ((obAt h n).items.getD 3 vl0).r).kind = 1
 tl : (obAt h ((obAt h n).items.getD 3 vl0).r).items.length ≤ 1000
 tv : ∀ v ∈ (obAt h ((obAt h n).items.getD 3 vl0).r).items,VlC h.length v ∧ cV v ≤ 100
 iv : ∀ v ∈ (obAt h n).items,VlC h.length v ∧ cV v ≤ 43000
structure Xa (E : Int → Prop) (h : List Ob) : Prop where
 x : ∀ n,E n → Xo E h n
 len : h.length ≤ 2000000
theorem ixE (t : List ByteArray) (k : Nat) (s : ByteArray) (hk : k < 4) (hs : exN[k]? = some s) (hn : ∀ j,j < k → exN[j]? ≠ some s) : ixI (exN ++ t) s = k :=
 ixI_at (fun j hj => by rw [List.getElem?_append_left (by show j < 4;omega)];exact hn j hj) (by rw [List.getElem?_append_left (by show k < 4;omega)];exact hs)
theorem ix_cau (t : List ByteArray) : ixI (exN ++ t) cauB = 1 := ixE t 1 cauB (by decide) rfl (fun j hj => by
 have : j = 0 := by omega
 subst this;decide +kernel)
theorem ix_con (t : List ByteArray) : ixI (exN ++ t) conB = 2 := ixE t 2 conB (by decide) rfl (fun j hj => by
 rcases (by omega : j = 0 ∨ j = 1) with rfl | rfl <;> decide +kernel)
theorem ix_tra (t : List ByteArray) : ixI (exN ++ t) traB = 3 := ixE t 3 traB (by decide) rfl (fun j hj => by
 rcases (by omega : j = 0 ∨ j = 1 ∨ j = 2) with rfl | rfl | rfl <;> decide +kernel)
theorem Xo.l4 {E : Int → Prop} {h : List Ob} {n : Int} (x : Xo E h n) : 4 ≤ (obAt h n).items.length := by
 obtain ⟨t,ht⟩ := x.names;rw [x.len,ht,List.length_append];show 4 ≤ 4 + t.length;omega
theorem Xo.at {E : Int → Prop} {h : List Ob} {e : Vl} (x : Xo E h e.r) (hk : e.k = 6) : objS h e = obAt h e.r := objS_at (fun _ => x.ob) hk
theorem Xo.ix {E : Int → Prop} {h : List Ob} {n : Int} (x : Xo E h n) : ixI (obAt h n).names cauB = 1 ∧ ixI (obAt h n).names conB = 2 ∧ ixI (obAt h n).names traB = 3 := by
 obtain ⟨t,ht⟩ := x.names;rw [ht];exact ⟨ix_cau t,ix_con t,ix_tra t⟩
theorem Xo.g4 {E : Int → Prop} {h : List Ob} {e : Vl} (x : Xo E h e.r) (hk : e.k = 6) : g4S h e cauB = (obAt h e.r).items.getD 1 vl0 ∧ g4S h e conB = (obAt h e.r).items.getD 2 vl0 ∧ g4S h e traB = (obAt h e.r).items.getD 3 vl0 := by
 obtain ⟨h1,h2,h3⟩ := x.ix;unfold g4S ownV;rw [x.at hk,h1,h2,h3];exact ⟨rfl,rfl,rfl⟩
theorem Xo.nm {E : Int → Prop} {h : List Ob} {e : Vl} (x : Xo E h e.r) (hk : e.k = 6) : (objS h e).names.length ≤ (objS h e).items.length ∧ (objS h e).names.length ≤ 2000000 := by
 rw [x.at hk,x.len];have := x.nl;omega
def wkV (f : Vl → Vl) : Nat → Vl → List Vl → List Vl
 | 0,_,s => s
 | n + 1,x,s => if x.k = 6 ∧ hasB (s.map Vl.r) x.r = false then wkV f n (f x) (s ++ [x]) else s
def conV (h : List Ob) (x : Vl) : Vl := (obAt h x.r).items.getD 2 vl0
def ledV (h : List Ob) (x : Vl) : Vl := if ((obAt h x.r).items.getD 1 vl0).k = 0 then (obAt h x.r).items.getD 2 vl0 else (obAt h x.r).items.getD 1 vl0
def Xv (E : Int → Prop) (x : Vl) : Prop := x.k = 0 ∨ x.k = 6 ∧ E x.r
theorem Xa.con {E : Int → Prop} {h : List Ob} (hA : Xa E h) {x : Vl} (hx : E x.r) : Xv E (conV h x) := (hA.x _ hx).cau 2 (.inr rfl)
theorem Xa.led {E : Int → Prop} {h : List Ob} (hA : Xa E h) {x : Vl} (hx : E x.r) : Xv E (ledV h x) := by
 unfold ledV;split
 ·exact (hA.x _ hx).cau 2 (.inr rfl)
 ·exact (hA.x _ hx).cau 1 (.inl rfl)
structure Wk (E : Int → Prop) (f : Vl → Vl) (N : Nat) (v : Vl) where
 x : Vl
 s : List Vl
 le : s.length ≤ N
 nd : (s.map Vl.r).Nodup
 sE : ∀ y ∈ s,y.k = 6 ∧ E y.r
 xE : Xv E x
 tot : wkV f (N + 1 - s.length) x s = wkV f (N + 1) v []
def Wk.start {E : Int → Prop} {f : Vl → Vl} (N : Nat) {v : Vl} (hv : Xv E v) : Wk E f N v := ⟨v,[],Nat.zero_le _,List.nodup_nil,(fun _ h => by cases h),hv,rfl⟩
theorem Wk.step {E : Int → Prop} {f : Vl → Vl} {N : Nat} {v : Vl} (a : Wk E f N v) (hk : a.x.k = 6) (hn : hasB (a.s.map Vl.r) a.x.r = false) : wkV f (N + 1 - a.s.length) a.x a.s = wkV f (N - a.s.length) (f a.x) (a.s ++ [a.x]) := by
 rw [show N + 1 - a.s.length = (N - a.s.length) + 1 by have := a.le;omega,wkV,if_pos ⟨hk,hn⟩]
theorem Wk.room {E : Int → Prop} {f : Vl → Vl} {N : Nat} {v : Vl} (a : Wk E f N v) (hE : ∀ n,E n → 0 ≤ n ∧ n < (N : Int)) (hk : a.x.k = 6) (hn : hasB (a.s.map Vl.r) a.x.r = false) : a.s.length + 1 ≤ N ∧ ((a.s ++ [a.x]).map Vl.r).Nodup ∧ ∀ y ∈ a.s ++ [a.x],y.k = 6 ∧ E y.r := by
 have hx : E a.x.r := by
  rcases a.xE with h | h
  ·omega
  ·exact h.2
 have h3 : ∀ y ∈ a.s ++ [a.x],y.k = 6 ∧ E y.r := fun y hy => by
  rcases List.mem_append.1 hy with h | h
  ·exact a.sE y h
  ·rw [List.mem_singleton.1 h];exact ⟨hk,hx⟩
 have h2 : ((a.s ++ [a.x]).map Vl.r).Nodup := by
  rw [List.map_append,List.map_singleton,List.nodup_append];refine ⟨a.nd,by simp,fun p hp q hq => ?_⟩;rw [List.mem_singleton.1 hq];rintro rfl;exact hasB_no.1 hn hp
 have h1 := nodup_lenI (N := N) h2 fun n hm => by
  obtain ⟨y,hy,rfl⟩ := List.mem_map.1 hm;exact hE _ (h3 y hy).2
 rw [List.length_map,List.length_append,List.length_singleton] at h1;exact ⟨h1,h2,h3⟩
def Wk.next {E : Int → Prop} {f : Vl → Vl} {N : Nat} {v : Vl} (a : Wk E f N v) (hE : ∀ n,E n → 0 ≤ n ∧ n < (N : Int)) (hf : ∀ x,E x.r → Xv E (f x)) (hk : a.x.k = 6) (hn : hasB (a.s.map Vl.r) a.x.r = false) : Wk E f N v :=
 ⟨f a.x,a.s ++ [a.x],by rw [List.length_append,List.length_singleton];exact (a.room hE hk hn).1,(a.room hE hk hn).2.1,(a.room hE hk hn).2.2,hf _ (by
  rcases a.xE with h | h
  ·omega
  ·exact h.2),by
  rw [List.length_append,List.length_singleton,show N + 1 - (a.s.length + 1) = N - a.s.length by omega,← a.step hk hn];exact a.tot⟩
theorem Wk.done {E : Int → Prop} {f : Vl → Vl} {N : Nat} {v : Vl} (a : Wk E f N v) (hn : ¬ (a.x.k = 6 ∧ hasB (a.s.map Vl.r) a.x.r = false)) : wkV f (N + 1) v [] = a.s := by
 rw [← a.tot,show N + 1 - a.s.length = (N - a.s.length) + 1 by have := a.le;omega,wkV,if_neg hn]
theorem wkV_pre (f : Vl → Vl) : ∀ (n : Nat) (x : Vl) (s : List Vl) (y : Vl),y ∈ s → y ∈ wkV f n x s
 | 0,_,_,_,h => h
 | n + 1,x,s,y,h => by
  rw [wkV];split
  ·exact wkV_pre f n _ _ y (List.mem_append.2 (.inl h))
  ·exact h
theorem Wk.has {E : Int → Prop} {f : Vl → Vl} {N : Nat} {v : Vl} (a : Wk E f N v) (hk : a.x.k = 6) (hn : hasB (a.s.map Vl.r) a.x.r = false) : hasB ((wkV f (N + 1) v []).map Vl.r) a.x.r = true := by
 rw [← a.tot,a.step hk hn];exact hasB_iff.2 (List.mem_map.2 ⟨a.x,wkV_pre f _ _ _ _ (List.mem_append.2 (.inr (List.mem_singleton.2 rfl))),rfl⟩)
def ctxS (h : List Ob) (v : Vl) : List Vl := wkV (conV h) (h.length + 1) v []
def chnS (h : List Ob) (v : Vl) : List Vl := wkV (ledV h) (h.length + 1) v []
def notC (h : List Ob) (e v : Vl) : Bool := decide ((conV h e).k = 0) && !hasB ((ctxS h v).map Vl.r) e.r
def notH (h : List Ob) (e v : Vl) : List Ob := if notC h e v = true then setH h e 2 v else h
theorem Xa.rng {E : Int → Prop} {h : List Ob} (hA : Xa E h) : ∀ n,E n → 0 ≤ n ∧ n < (h.length : Int) := fun n hn => by
 have := isObj_lt (hA.x n hn).ob;omega
def swp (j k i : Nat) : Nat := match Nat.beq i j with | true => k | false => match Nat.beq i k with | true => j | false => i
theorem swp_eq (j k i : Nat) : swp j k i = if i = j then k else if i = k then j else i := by
 unfold swp;by_cases h1 : i = j
 ·subst h1;rw [Nat.beq_refl];simp
 ·rw [show Nat.beq i j = false by cases hb : Nat.beq i j with | false => rfl | true => exact absurd (Nat.eq_of_beq_eq_true hb) h1,if_neg h1];by_cases h2 : i = k
  ·subst h2;rw [Nat.beq_refl];simp
  ·rw [show Nat.beq i k = false by cases hb : Nat.beq i k with | false => rfl | true => exact absurd (Nat.eq_of_beq_eq_true hb) h2,if_neg h2]
theorem swp_inv (j k i : Nat) : swp j k (swp j k i) = i := by
 simp only [swp_eq];repeat' split
 all_goals omega
theorem swp_iff (j k i m : Nat) : swp j k i = m ↔ i = swp j k m := ⟨fun h => by rw [← h,swp_inv],fun h => by rw [h,swp_inv]⟩
mutual
def D.rn (j k : Nat) : D → D
 | .bp i off => .bp (swp j k i) off
 | .own i sz rows => .own (swp j k i) sz rows
 | .mo i n => .mo (swp j k i) n
 | .mp i n x sz o => .mp (swp j k i) n x sz o
 | .mk i => .mk (swp j k i)
 | .mw i q x sz n => .mw (swp j k i) q x sz n
 | .gd c (.bp i off) => .gd c (.bp (swp j k i) off)
 | .gd c (.mo i n) => .gd c (.mo (swp j k i) n)
 | .gd c (.mp i n x sz o) => .gd c (.mp (swp j k i) n x sz o)
 | .gd c (.mk i) => .gd c (.mk (swp j k i))
 | .gd c (.mw i q x sz n) => .gd c (.mw (swp j k i) q x sz n)
 | .agg l => .agg (D.rns j k l)
 | .tpo l => .tpo (D.rns j k l)
 | .clo f l => .clo f (D.rns j k l)
 | d => d
def D.rns (j k : Nat) : List D → List D
 | [] => []
 | d :: l => d.rn j k :: D.rns j k l
end
mutual
theorem D.rn_tv (j k : Nat) (d : D) : (d.rn j k).tv = d.tv.ren (swp j k) := by
 match d with
 | .v _ => rfl
 | .tup _ => rfl
 | .sl _ _ _ _ _ => rfl
 | .slr _ _ _ => rfl
 | .pt _ _ => rfl
 | .op _ => rfl
 | .bp _ _ => rfl
 | .own _ _ _ => rfl
 | .mo _ _ => rfl
 | .mp _ _ _ _ _ => rfl
 | .mk _ => rfl
 | .mw _ _ _ _ _ => rfl
 | .gd _ (.bp _ _) => rfl
 | .gd _ (.mo _ _) => rfl
 | .gd _ (.mp _ _ _ _ _) => rfl
 | .gd _ (.mk _) => rfl
 | .gd _ (.mw _ _ _ _ _) => rfl
 | .gd _ (.v _) => rfl
 | .gd _ (.agg _) => rfl
 | .gd _ (.tup _) => rfl
 | .gd _ (.tpo _) => rfl
 | .gd _ (.clo _ _) => rfl
 | .gd _ (.sl _ _ _ _ _) => rfl
 | .gd _ (.slr _ _ _) => rfl
 | .gd _ (.pt _ _) => rfl
 | .gd _ (.own _ _ _) => rfl
 | .gd _ (.op _) => rfl
 | .gd _ (.gd _ _) => rfl
 | .agg l => rw [D.rn,D.tv,D.tv,TV.ren,D.rns_tv j k l]
 | .tpo l => rw [D.rn,D.tv,D.tv,TV.ren,D.rns_tv j k l]
 | .clo f l => rw [D.rn,D.tv,D.tv,TV.ren,D.rns_tv j k l]
theorem D.rns_tv (j k : Nat) (l : List D) : D.tvl (D.rns j k l) = TV.rens (swp j k) (D.tvl l) := by
 match l with
 | [] => rfl
 | d :: l => rw [D.rns,D.tvl,D.tvl,TV.rens,D.rn_tv j k d,D.rns_tv j k l]
end
def DOwn.rn (j k : Nat) : DOwn → DOwn
 | .box ty cs => .box ty (D.rns j k cs)
 | c => c
theorem DOwn.rn_o (j k : Nat) (c : DOwn) : (c.rn j k).o = c.o.ren (swp j k) := by
 cases c with
 | box ty cs => show Own.box ty (D.tvl (D.rns j k cs)) = Own.box ty (TV.rens (swp j k) (D.tvl cs));rw [D.rns_tv]
 | _ => rfl
def rnT (j k : Nat) : List (Nat × D) → List (Nat × D)
 | [] => []
 | (t,d) :: l => (t,d.rn j k) :: rnT j k l
def rnW (j k : Nat) : List (Nat × DOwn) → List (Nat × DOwn)
 | [] => []
 | (i,c) :: l => (swp j k i,c.rn j k) :: rnW j k l
theorem rnT_tvs (j k : Nat) : ∀ l : List (Nat × D),tvs (rnT j k l) = (tvs l).map fun x => (x.1,x.2.ren (swp j k))
 | [] => rfl
 | (t,d) :: l => by
  show (t,(d.rn j k).tv) :: tvs (rnT j k l) = (t,d.tv.ren (swp j k)) :: _;rw [D.rn_tv,rnT_tvs j k l];rfl
theorem rnW_ows (j k : Nat) : ∀ l : List (Nat × DOwn),ows (rnW j k l) = renL (swp j k) (ows l)
 | [] => rfl
 | (i,c) :: l => by
  show (swp j k i,(c.rn j k).o) :: ows (rnW j k l) = (swp j k i,c.o.ren (swp j k)) :: _;rw [DOwn.rn_o,rnW_ows j k l];rfl
theorem fnd_rn (j k t : Nat) : ∀ l : List (Nat × TV),fnd t (l.map fun x => (x.1,x.2.ren (swp j k))) = (fnd t l).map (TV.ren (swp j k))
 | [] => rfl
 | (i,d) :: l => by
  rw [List.map_cons,zT,zT,fnd_rn j k t l];split <;> rfl
theorem fnd_rw (j k t : Nat) : ∀ l : List (Nat × Own),fnd t (renL (swp j k) l) = (fnd (swp j k t) l).map (Own.ren (swp j k))
 | [] => rfl
 | (i,c) :: l => by
  show fnd t ((swp j k i,c.ren (swp j k)) :: renL (swp j k) l) = _;rw [zT,zT,fnd_rw j k t l];by_cases h : i = swp j k t
  ·rw [if_pos h,if_pos ((swp_iff j k i t).2 h)];rfl
  ·rw [if_neg h,if_neg fun e => h ((swp_iff j k i t).1 e)]
section
variable {P : Program} {b : Ba}
def rnOk (j k nx : Nat) (tm : List (Nat × D)) (ow : List (Nat × DOwn)) : Bool := match ((Nat.ble 40 j && Nat.ble 40 k) && (Nat.blt j nx && Nat.blt k nx)) with | true => (match idT nx tm with | true => idW nx ow | false => false) | false => false
theorem Rel.rn (j k : Nat) {w : World} {s : Sb} {g : Gh} {a : Act} {tm : List (Nat × D)} {ow : List (Nat × DOwn)} {nx : Nat} (h0 : rnOk j k nx tm ow = true) (hr : Rel b w s g (DS.ste ⟨tm,ow,nx⟩) a) :
  Rel b w s ⟨fun i => g.bx (swp j k i),fun i m => g.gn (swp j k i) m⟩ (DS.ste ⟨rnT j k tm,rnW j k ow,nx⟩) a := by
 obtain ⟨h1,h2,h3⟩ : ((Nat.ble 40 j && Nat.ble 40 k) && (Nat.blt j nx && Nat.blt k nx)) = true ∧ idT nx tm = true ∧ idW nx ow = true := by
  unfold rnOk at h0;split at h0
  ·rename_i e1;split at h0
   ·rename_i e2;exact ⟨e1,e2,h0⟩
   ·cases h0
  ·cases h0
 simp only [Bool.and_eq_true] at h1;have hj : 40 ≤ j := Nat.le_of_ble_eq_true h1.1.1;have hk : 40 ≤ k := Nat.le_of_ble_eq_true h1.1.2;have hjn : j < nx := Nat.le_of_ble_eq_true h1.2.1;have hkn : k < nx := Nat.le_of_ble_eq_true h1.2.2;have hlt : ∀ i,i < nx → swp j k i < nx := fun i hi => by
  rw [swp_eq];repeat' split
  all_goals omega
 have hge : ∀ i,nx ≤ i → swp j k i = i := fun i hi => by
  rw [swp_eq,if_neg (by omega),if_neg (by omega)]
 have hlo : ∀ i,i < 40 → swp j k i = i := fun i hi => by
  rw [swp_eq,if_neg (by omega),if_neg (by omega)]
 have hG : GEq nx (swp j k) g ⟨fun i => g.bx (swp j k i),fun i m => g.gn (swp j k i) m⟩ := ⟨fun i _ => by show g.bx (swp j k (swp j k i)) = _;rw [swp_inv],fun i m _ => by show g.gn (swp j k (swp j k i)) m = _;rw [swp_inv]⟩;have hT := idT_all h2;have hW := idW_all h3;have hw : ∀ i c,fnd i (ows ow) = some c → i < nx ∧ idO nx c = true := fun i c hf => by
  have := List.all_eq_true.1 hW _ (qH hf);simp only [Bool.and_eq_true] at this;exact ⟨Nat.le_of_ble_eq_true this.1,this.2⟩
 have key : ∀ i c,fnd i (renL (swp j k) (ows ow)) = some c → ∃ c0,fnd (swp j k i) (ows ow) = some c0 ∧ c = c0.ren (swp j k) := fun i c hf => by
  rw [fnd_rw] at hf
  cases hx : fnd (swp j k i) (ows ow) with
  | none => rw [hx] at hf;cases hf
  | some c0 => rw [hx] at hf;cases hf;exact ⟨c0,rfl,rfl⟩
 have bk : ∀ i c0,fnd (swp j k i) (ows ow) = some c0 → blk ⟨fun i => g.bx (swp j k i),fun i m => g.gn (swp j k i) m⟩ i (c0.ren (swp j k)) = blk g (swp j k i) c0 := fun i c0 hf => by
  have := blk_ren hG (hw _ _ hf).1 c0;rw [swp_inv] at this;exact this
 refine ⟨hr.kp,hr.lt,hr.sz,fun t d hf => ?_,fun i c hf => ?_,fun i i' c c' N hf hf' hne hb => ?_,fun i hi => ?_,hr.df,fun i hi => ?_⟩
 ·have hf : fnd t (tvs (rnT j k tm)) = some d := hf;rw [rnT_tvs,fnd_rn] at hf
  cases hx : fnd t (tvs tm) with
  | none => rw [hx] at hf;cases hf
  | some d0 =>
   rw [hx] at hf;cases hf;obtain ⟨v,g1,g2⟩ := hr.tm t d0 hx;exact ⟨v,g1,(TV.ren_iff hG (List.all_eq_true.1 hT _ (qH hx))).2 g2⟩
 ·have hf : fnd i (ows (rnW j k ow)) = some c := hf;rw [rnW_ows] at hf;obtain ⟨c0,g1,rfl⟩ := key i c hf;obtain ⟨g2,g3⟩ := hr.ow _ c0 g1;refine ⟨?_,fun N hN => g3 N (by rw [bk i c0 g1] at hN;exact hN)⟩;have := (Ok1.ren_iff (w := w) (s := s) hG (hw _ _ g1).1 (hw _ _ g1).2).2 g2;rw [swp_inv] at this;exact this
 ·have hf : fnd i (ows (rnW j k ow)) = some c := hf;have hf' : fnd i' (ows (rnW j k ow)) = some c' := hf';rw [rnW_ows] at hf hf';obtain ⟨c0,g1,rfl⟩ := key i c hf;obtain ⟨c1,g2,rfl⟩ := key i' c' hf';rw [bk i' c1 g2];rw [bk i c0 g1] at hb;exact hr.sep _ _ c0 c1 N g1 g2 (fun e => hne (by rw [← swp_inv j k i,e,swp_inv])) hb
 ·have hi : nx ≤ i := hi;show g.bx (swp j k i) = none ∧ ∀ m,g.gn (swp j k i) m = none;rw [hge i hi];exact hr.fr i hi
 ·show (∀ N,b.g0.bx i = some N → g.bx (swp j k i) = some N) ∧ ∀ m v,b.g0.gn i m = some v → g.gn (swp j k i) m = some v;rw [hlo i hi];exact hr.gb i hi
theorem ev_ren (j k : Nat) {c : Code} {tm : List (Nat × D)} {ow : List (Nat × DOwn)} {nx : Nat} {K : Exit → DS → Prop} (h0 : rnOk j k nx tm ow = true)
  (h : Ev P b c ⟨rnT j k tm,rnW j k ow,nx⟩ K) : Ev P b c ⟨tm,ow,nx⟩ K := fun w s _ a Q hr hK => h w s _ a Q (hr.rn j k h0) hK
def exRn (j k : Nat) (K : Exit → DS → Prop) (ex : Exit) (S : DS) : Prop := match ex with
 | .normal => rnOk j k S.nx S.tm S.ow = true ∧ K .normal ⟨rnT j k S.tm,rnW j k S.ow,S.nx⟩
 | e => K e S
theorem exRn_normal {j k : Nat} {K : Exit → DS → Prop} {tm : List (Nat × D)} {ow : List (Nat × DOwn)} {nx : Nat} (h0 : rnOk j k nx tm ow = true) (h : K .normal ⟨rnT j k tm,rnW j k ow,nx⟩) : exRn j k K .normal ⟨tm,ow,nx⟩ := ⟨h0,h⟩
theorem ev_renQ (j k : Nat) {c : Code} {S : DS} {K : Exit → DS → Prop} (h : Ev P b c S (exRn j k K)) : Ev P b c S K := fun w s g a Q hr hK =>
 h w s g a Q hr fun ex w' s' g' a' S' h1 h2 => by
  cases ex with
  | normal => exact hK _ w' s' _ a' _ (h1.rn j k h2.1) h2.2
  | _ => exact hK _ w' s' g' a' S' h1 h2
end
variable {md me : Bool}
theorem sn248 {P : Program} {K : DS → Prop} {p : Prop} {r : Out} (hr : r.sat P K) (hp : p := by first | (simp only [List.length_map];have := x.le;omega) | first | exact trivial | omega | exact ini (by omega) (by omega) | (intro hh;simp at hh;exact ini (by omega) (by omega)) | (intro hh;simp at hh ⊢;omega) | (simp at *;omega) | (simp_all;done)) : (Out.need p r).sat P K := ⟨hp,hr⟩
theorem Note_G (E : Int → Prop) (h : List Ob) (e v : Vl) (hA : Xa E h) (he : e.k = 6 ∧ E e.r) (hv : Xv E v) : FnG Tryz.prog 9 [.bp 0 0,.agg (vlD e),.agg (vlD v)] (hpO h) (.v (.tuple #[])) (hpO (notH h e v)) := by
 have hx0 := hA.x _ he.2;have hge : g4S h e conB = conV h e := (hx0.g4 he.1).2.1;have hlen := hA.len;obtain ⟨R,hR⟩ : ∃ R,R = notH h e v := ⟨_,rfl⟩;rw [← hR];refine qT tabT Tryz.func9 rfl rfl rfl rfl rfl rfl rfl ?_;intro w0 s0 mx;refine ev_R tabT [] 100 ?_;refine ev_R tabT [] 200 ?_;refine yM 6 3 1 rfl ?_;refine zB ?_;refine ev_R tabT [] 300 ?_;refine zL ?_;refine zX (ι := Wk E (conV h) h.length v) [0,4,5] [0,1,2,3] 350 (fun x => [(6,.own 200 1 ((x.s.map Vl.r).map iD)),(7,.bp 202 0)]) (fun x => [(202,.box 34 (vlD x.x)),(200,.row 3 1 ((x.s.map Vl.r).map iD).length)]) (fun x => h.length + 1 - x.s.length) (Wk.start h.length hv) ?_;refine ⟨⟨⟨Sub.own rfl,le_t⟩,⟨⟨rfl,SubL.same rfl⟩,⟨rfl,rfl,rfl⟩,le_o⟩,rfl,rfl⟩,fun x => ?_⟩;have hxl := x.le;refine zB ?_;refine zB (zE tabT [] 400 rfl ?_);refine zF ?_;refine yG _ (fun hg7 => (qJ (x.s.map Vl.r) _).args ⟨SubP.ownSl (k := 200) rfl,SubP.refl _,trivial⟩) rfl ?_;refine zF ?_;refine zC (zA ?_);refine zR rfl (fun c3 => ?_) (fun c3 => ?_)
 ·have c3 : x.x.k = 6 ∧ hasB (x.s.map Vl.r) x.x.r = false := by simpa using c3
  have hxe : E x.x.r := by
   rcases x.xE with h9 | h9
   ·exact absurd (c3.1.symm.trans h9) (by decide)
   ·exact h9.2
  have hx := hA.x _ hxe;have hg : g4S h x.x conB = conV h x.x := (hx.g4 c3.1).2.1;have hnm := hx.nm c3.1;refine zK (zA ?_);refine zB ?_;refine zL ?_;refine zE tabT [] 600 rfl ?_;repeat (first | refine zG ?_ | refine zH ?_ | refine sn248 ?_)
  refine zC (zJ (zA ?_));refine zB ?_;refine ev_R tabT [] 700 ?_;refine ev_Q tabT [] 800 ?_;refine zA ?_;refine ev_ren 202 700 rfl ?_;refine yJ [0,4,5,6] [0,1,2,3,200] 810 [(7,.bp 202 0)] [(202,.box 34 (vlD x.x))] ?_;refine ⟨⟨⟨Sub.refl _,le_t⟩,⟨⟨rfl,SubL.same rfl⟩,le_o⟩,rfl,rfl⟩,?_⟩;refine zZ tabT [] [[],[0],[0,1],[],[0,1,2,3],[0,1,2,3,4]] 900 mixT (by kernel_rfl) rfl ?_;refine zF ?_;refine sat_fnL _ (Get4x_ok h x.x conB hnm.1 hnm.2) rfl rfl ?_;refine zF ?_;refine zC ?_;exact zP (x.next hA.rng (fun y hy => hA.con hy) c3.1 c3.2) ⟨⟨Sub.own (by show _ = ((x.s ++ [x.x]).map Vl.r).map iD;rw [List.map_append,List.map_append];rfl),le_t⟩,⟨⟨rfl,by show SubL _ (vlD (conV h x.x));rw [← hg];exact SubL.same rfl⟩,⟨rfl,rfl,by show _ = (((x.s ++ [x.x]).map Vl.r).map iD).length;simp⟩,le_o⟩,rfl,rfl⟩ (by show h.length + 1 - (x.s ++ [x.x]).length < h.length + 1 - x.s.length;have := x.le;simp;omega)
 ·have c3 : ¬ (x.x.k = 6 ∧ hasB (x.s.map Vl.r) x.x.r = false) := by simpa using c3
  have hd : ctxS h v = x.s := x.done c3;refine yA (zU (zW (zS (zA ?_))));refine zB (zZ tabT [] [[],[0],[0,1],[],[0,1,2,3],[0,1,2,3,4],[0,1,2,3,4,5],[0,1,2,3,4,5,6],[0,1,2,3,4,5,6,7],[0,1,2,3,4,5,6,7],[0,1,2,3,4,5,6,7,9],[0,1,2,3,4,5,6,7,8,9,10],[0,1,2,3,4,5,6,7,8,9,10,11],[0,1,2,3,4,5,6,7,8,9,10,11,12]] 900 mixT (by kernel_rfl) rfl ?_);refine zF ?_;refine sat_fnL _ (Get4x_ok h e conB (hx0.nm he.1).1 (hx0.nm he.1).2) rfl rfl ?_;refine zF ?_;refine yG _ (fun hg11 => (qJ (x.s.map Vl.r) _).args ⟨SubP.ownSl (k := 200) rfl,SubP.refl _,trivial⟩) rfl ?_;refine zF ?_;refine zC (zA ?_);refine yF (fun c8 => ?_) (fun c8 => ?_)
  ·
   refine zE tabT [1047] 1000 rfl ?_;refine zF ?_
   refine yD _ _ (by
     have h9 := set4_G h e conB v (by omega) ⟨he.1,hx0.ob⟩ (by have := hx0.nl;omega) (by rw [hx0.ix.2.1];have := hx0.l4;omega) (by rw [hx0.len];have := hx0.nl;omega);rw [hx0.ix.2.1] at h9;exact h9) rfl ?_
   refine zF ?_;refine zC ?_;have hn : R = setH h e 2 v := by
    rw [hR];exact if_pos (by unfold notC;rw [hd,← hge];simpa using c8)
   subst hn;exact FinH.normal 2 rfl rfl (Sub.refl _) ⟨⟨rfl,Sub.refl _,rfl,trivial⟩,SubO.mp rfl,trivial⟩
  ·
   refine zK ?_;have hn : R = h := by
    rw [hR];exact if_neg (by unfold notC;rw [hd,← hge];simpa using c8)
   subst hn;exact FinH.normal 2 rfl rfl (Sub.refl _) ⟨⟨rfl,Sub.refl _,rfl,trivial⟩,SubO.mp rfl,trivial⟩
theorem Chained_ok (E : Int → Prop) (h : List Ob) (v : Vl) (hA : Xa E h) (hv : Xv E v) : Fn Tryz.prog 18 [hpD md h,.agg (vlD v)] (vsD (chnS h v)) := by
 have hlen := hA.len;refine yK tabT Tryz.func18 rfl rfl rfl rfl rfl rfl ?_;intro w0 s0 mx;refine ev_R tabT [] 100 ?_;refine ev_R tabT [] 200 ?_;refine yM 5 34 7 rfl ?_;refine ev_R tabT [] 300 ?_;refine yM 6 3 1 rfl ?_;refine zB ?_;refine ev_R tabT [] 400 ?_;refine zL ?_;refine zX (ι := Wk E (ledV h) h.length v) [2] [0] 450 (fun x => [(5,.own 200 7 (x.s.map vlD)),(6,.own 300 1 ((x.s.map Vl.r).map iD)),(7,.bp 302 0)]) (fun x => [(302,.box 34 (vlD x.x)),(200,.row 34 7 (x.s.map vlD).length),(300,.row 3 1 ((x.s.map Vl.r).map iD).length)]) (fun x => h.length + 1 - x.s.length) (Wk.start h.length hv) ?_;refine ⟨⟨⟨Sub.own rfl,Sub.own rfl,le_t⟩,⟨⟨rfl,SubL.same rfl⟩,⟨rfl,rfl,rfl⟩,⟨rfl,rfl,rfl⟩,le_o⟩,rfl,rfl⟩,fun x => ?_⟩;have hxl := x.le;refine zB ?_;refine zB (zE tabT [] 500 rfl ?_);refine zF ?_;refine yG _ (fun hg7 => (HasInt_ok (x.s.map Vl.r) _).args ⟨SubP.ownSl (k := 300) rfl,SubP.refl _,trivial⟩) rfl ?_;refine zF ?_;refine zC (zA ?_);refine zR rfl (fun c4 => ?_) (fun c4 => ?_)
 ·have c4 : x.x.k = 6 ∧ hasB (x.s.map Vl.r) x.x.r = false := by simpa using c4
  have hxe : E x.x.r := by
   rcases x.xE with h9 | h9
   ·exact absurd (c4.1.symm.trans h9) (by decide)
   ·exact h9.2
  have hx := hA.x _ hxe;have hg1 : g4S h x.x cauB = (obAt h x.x.r).items.getD 1 vl0 := (hx.g4 c4.1).1;have hg2 : g4S h x.x conB = (obAt h x.x.r).items.getD 2 vl0 := (hx.g4 c4.1).2.1;have hnm := hx.nm c4.1;refine zK (zA ?_);refine zB ?_;refine zL ?_;refine zB (zZ tabT [] [[],[],[1],[1,2],[0,1,2,3],[],[],[6],[0,1,2,3,4,5,6,7],[0,1,2,3,4,5,6,7,8],[0,1,2,3,4,5,6,7,8,9]] 600 mixT (by kernel_rfl) rfl ?_);repeat (first | refine zG ?_ | refine zH ?_ | refine sn248 ?_)
  refine zC (zA ?_);refine zB (zE tabT [] 700 rfl ?_);refine zF ?_;refine zV _ (Get4x_ok h x.x cauB hnm.1 hnm.2) rfl ?_;refine zF ?_;refine zC (zA ?_);refine zB ?_;refine ev_R tabT [] 800 ?_;refine zR rfl (fun c7 => ?_) (fun c7 => ?_)
  ·have c7w : (g4S h x.x cauB).k = 0 := by simpa using c7
   refine zE tabT [] 900 rfl ?_;refine zF ?_;refine zV _ (Get4x_ok h x.x conB hnm.1 hnm.2) rfl ?_;refine zF ?_;refine zC (zA ?_);refine ev_Q tabT [] 1000 ?_;refine zJ (zA ?_);refine ev_R tabT [] 1100 ?_;refine ev_renQ 302 1100 ?_;refine ev_Q tabT [] 1200 ?_;refine exRn_normal rfl ?_;have hl : ledV h x.x = g4S h x.x conB := by
    unfold ledV;rw [if_pos (by rw [← hg1];exact c7w)];exact hg2.symm
   exact zP (x.next hA.rng (fun y hy => hA.led hy) c4.1 c4.2) ⟨⟨Sub.own (by show _ = (x.s ++ [x.x]).map vlD;rw [List.map_append];rfl),Sub.own (by show _ = ((x.s ++ [x.x]).map Vl.r).map iD;rw [List.map_append,List.map_append];rfl),Sub.refl _,le_t⟩,⟨⟨rfl,by show SubL _ (vlD (ledV h x.x));rw [hl];exact SubL.same rfl⟩,⟨rfl,rfl,by show _ = ((x.s ++ [x.x]).map vlD).length;simp⟩,⟨rfl,rfl,by show _ = (((x.s ++ [x.x]).map Vl.r).map iD).length;simp⟩,le_o⟩,rfl,rfl⟩ (by show h.length + 1 - (x.s ++ [x.x]).length < h.length + 1 - x.s.length;have := x.le;simp;omega)
  ·have c7w : ¬ (g4S h x.x cauB).k = 0 := by simpa using c7
   refine zK (zA ?_);refine ev_Q tabT [] 1000 ?_;refine zJ (zA ?_);refine ev_R tabT [] 1100 ?_;refine ev_renQ 302 1100 ?_;refine ev_Q tabT [] 1200 ?_;refine exRn_normal rfl ?_;have hl : ledV h x.x = g4S h x.x cauB := by
    unfold ledV;rw [if_neg (by rw [← hg1];exact c7w)];exact hg1.symm
   exact zP (x.next hA.rng (fun y hy => hA.led hy) c4.1 c4.2) ⟨⟨Sub.own (by show _ = (x.s ++ [x.x]).map vlD;rw [List.map_append];rfl),Sub.own (by show _ = ((x.s ++ [x.x]).map Vl.r).map iD;rw [List.map_append,List.map_append];rfl),Sub.refl _,le_t⟩,⟨⟨rfl,by show SubL _ (vlD (ledV h x.x));rw [hl];exact SubL.same rfl⟩,⟨rfl,rfl,by show _ = ((x.s ++ [x.x]).map vlD).length;simp⟩,⟨rfl,rfl,by show _ = (((x.s ++ [x.x]).map Vl.r).map iD).length;simp⟩,le_o⟩,rfl,rfl⟩ (by show h.length + 1 - (x.s ++ [x.x]).length < h.length + 1 - x.s.length;have := x.le;simp;omega)
 ·have c4 : ¬ (x.x.k = 6 ∧ hasB (x.s.map Vl.r) x.x.r = false) := by simpa using c4
  have hd : chnS h v = x.s := x.done c4;refine yA (zU (zW (zS (zA ?_))));refine ev_R tabT [] 1300 ?_;refine zO ?_;exact FinV.ret rfl (SubP.ownSl (by rw [hd]))
end Go.Proofs.YtmbnclhokhggaaaGreatDoor
