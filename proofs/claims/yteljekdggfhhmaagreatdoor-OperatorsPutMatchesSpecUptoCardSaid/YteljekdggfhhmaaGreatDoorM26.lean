/- OperatorsPutMatchesSpec: the given statement. Condition: what the law reads is of bulk at most 1048576 (the second form); the listed variables start as the program's text lays them. -/
import Derived.Test.YteljekdggfhhmaaGreatDoorM25
import Derived.Test.YteljekdggfhhmaaGreatDoorM22
import Derived.Test.YteljekdggfhhmaaGreatDoorM21
import Derived.Test.YteljekdggfhhmaaGreatDoorM24
import Derived.Test.YteljekdggfhhmaaGreatDoorM23
import Derived.Test.YteljekdggfhhmaaGreatDoorRows
import Derived.ProofKit
import Derived.OpenShut
import Derived.ShutString
import Derived.Deep.Slices
import Derived.Test.YteljekdggfhhmaaGreatDoorM13
import Derived.Deep.Matrix
import Derived.ChangeOld
import Derived.Below
import Derived.SizedLaws
import Derived.Test.YteljekdggfhhmaaGreatDoorCards
import Derived.Test.YteljekdggfhhmaaGreatDoorTie
import Derived.Lib.LaidU8T
import Derived.Deep.DeepHandedRow
import Derived.Deep.DeepWitnessRowRef
import Derived.Lib.LaidTab
import Derived.Shelf.Vars
import Derived.PinnedBridge
import Derived.Lib.LaidPrint
import Derived.Lib.LaidSlice
import Derived.Lib.LaidIn
namespace Go.Proofs.YteljekdggfhhmaaGreatDoor
open Go.RowKit
variable {md me : Bool}
structure Skc (h : List Ob) (l : List Vl) : Prop where
 hc : HpC h
 hn : h.length ≤ 2000000
 vc : ∀ v ∈ l,VlC h.length v
 ln : l.length ≤ 2000000
 cost : cVs l + cH h ≤ 1073741824
theorem cOs_le {h : List Ob} {m : Nat} (hm : m ≤ h.length) : cOs h (List.range m) ≤ cH h := sum_nodup List.nodup_range fun n hn => by have := List.mem_range.1 hn;omega
theorem cOs_succ (h : List Ob) (m : Nat) : cOs h (List.range (m + 1)) = cOs h (List.range m) + cO (h.getD m ob0) := by
 rw [cOs,cOs,List.range_succ,List.map_append,List.sum_append,List.map_singleton,List.sum_singleton]
theorem SkI.nil (b : Int) (N : Nat) : SkI b N ⟨[],[]⟩ := ⟨(fun _ h => by cases h),List.nodup_nil⟩
theorem Rn.cost {b : Int} {e : Bool} {h : List Ob} {m C : Nat} {kf : Skt} (x : Rn b e h m C kf) (hi : x.i < x.k.ord.length) (hm : (m : Int) ≤ b) (hm2 : m ≤ h.length) : x.k.out.length + cO (h.getD (x.k.ord.getD x.i 0).toNat ob0) ≤ C + cH h := by
 have h1 := x.len;have h2 := cost_all (i := x.i + 1) x.inv hm hm2;have e0 : x.k.ord.getD x.i 0 = x.k.ord[x.i] := by rw [List.getD_eq_getElem?_getD,List.getElem?_eq_getElem hi];rfl
 rw [List.take_add_one,List.getElem?_eq_getElem hi] at h2;rw [e0];simp only [cOs,List.map_append,List.sum_append,Option.toList_some,List.map_cons,List.map_nil,List.sum_cons,List.sum_nil,Option.getD_some] at h1 h2 ⊢;omega
structure Bs (n : Nat) (h : List Ob) (k0 : Skt) where
 i : Nat
 le : i ≤ min n h.length
noncomputable def Bs.k {n : Nat} {h : List Ob} {k0 : Skt} (x : Bs n h k0) : Skt := Skt.base n true h k0 x.i
theorem sn261 {P : Program} {K : DS → Prop} {p : Prop} {r : Out} (hr : r.sat P K) (hp : p := by first | exact ⟨rfl,by show _ < y.k.ord.length;omega⟩ | rfl | (simp only [MR.len,List.length_map];done) | (simp only [MR.len,List.length_map];omega) | first | exact trivial | omega | exact ini (by omega) (by omega) | (intro hh;simp at hh;exact ini (by omega) (by omega)) | (intro hh;simp at hh ⊢;omega) | (simp at *;omega) | (simp_all;done)) : (Out.need p r).sat P K := ⟨hp,hr⟩
set_option maxHeartbeats 2000000 in
theorem Settled_ok (a : List Ob) (n : Nat) (l : List Vl) (hs : Skc a l) (hn : n ≤ 2000000) : Fn Tryz.prog 79 [hpD me a,.v (.int .i64 n),.sl false 7 l vlD vl0] (.v (.string (settledS a n l))) := by
 have hc := hs.cost;have hal := hs.hn;have hb0 : (0 : Int) ≤ (n : Nat) := by omega
 have hN0 : a.length ≤ 1000000000 := by omega
 have v1 := vs_ok (SkI.nil (n : Nat) a.length) hb0 hN0 hs.vc;have v2 := v1.len;have v3 : (⟨[],[]⟩ : Skt).out.length = 0 := rfl;have hm2 : min n a.length ≤ a.length := Nat.min_le_right _ _;have hm1 : ((min n a.length : Nat) : Int) ≤ (n : Nat) := by have := Nat.min_le_left n a.length;omega
 have b1 := base_ok (e := true) v1.inv hb0 hN0 hs.hc hm2;refine yJ tabT Tryz.func79 rfl rfl rfl rfl rfl rfl ?_;intro w0 s0 mx;refine ev_R tabT [] 100 ?_;refine ev_R tabT [] 200 ?_;refine ev_nilCell 103 2 3 1 rfl rfl ?_;refine ev_nilCell 103 3 5 1 rfl rfl ?_;refine ev_thaw 200 rfl ?_;refine ev_thaw 201 rfl ?_;refine yF [1,2,3,7] [0] 212 [] [(103,.box 169 [.sl me 10 a obD ob0,.v (.int .i64 (n : Nat)),.mo 200 ((⟨[],[]⟩ : Skt)).ord.length,.mo 201 ((⟨[],[]⟩ : Skt)).out.length]),(200,.mrow 3 1 (.map ((⟨[],[]⟩ : Skt)).ord iD 0)),(201,.mrow 5 1 (.map ((⟨[],[]⟩ : Skt)).out u8D 0))] ?_;refine ⟨⟨le_t,⟨⟨rfl,Sub.refl _,rfl,Sub.refl _,rfl,Sub.mo (rfl),rfl,Sub.mo (rfl),rfl,trivial⟩,SubO.mp (rfl),SubO.mp (rfl),le_o⟩,rfl,rfl⟩,?_⟩;refine zB (zE tabT [1016] 300 rfl ?_);refine zH ?_;refine yK _ _ (skVals_G a (n : Nat) a.length ⟨[],[]⟩ l hb0 hN0 (SkI.nil _ _) hs.vc (by omega) hs.ln) rfl ?_;refine zH ?_;refine zC (zA ?_);refine zB ?_;refine ev_R tabT [] 400 ?_;refine zO ?_;refine zY (ι := Bs n a (Skt.vs (n : Nat) ⟨[],[]⟩ l)) [1,3,7] [0] 450 (fun x => [(8,.v (.int .i64 x.i))]) (fun x => [(103,.box 169 [.sl me 10 a obD ob0,.v (.int .i64 (n : Nat)),.mo 200 (Skt.base (n : Nat) true a (Skt.vs (n : Nat) ⟨[],[]⟩ l) x.i).ord.length,.mo 201 (Skt.base (n : Nat) true a (Skt.vs (n : Nat) ⟨[],[]⟩ l) x.i).out.length]),(200,.mrow 3 1 (.map (Skt.base (n : Nat) true a (Skt.vs (n : Nat) ⟨[],[]⟩ l) x.i).ord iD 0)),(201,.mrow 5 1 (.map (Skt.base (n : Nat) true a (Skt.vs (n : Nat) ⟨[],[]⟩ l) x.i).out u8D 0))]) (fun x => a.length - x.i) ⟨0,Nat.zero_le _⟩ ?_;refine ⟨⟨⟨Sub.int rfl,le_t⟩,⟨⟨rfl,Sub.refl _,rfl,Sub.refl _,rfl,Sub.mo (rfl),rfl,Sub.mo (rfl),rfl,trivial⟩,SubO.mp (rfl),SubO.mp (rfl),le_o⟩,rfl,rfl⟩,fun x => ?_⟩;have hk0 := x.le;refine zB ?_;refine ev_R tabT [] 500 ?_;refine zR rfl (fun c4 => ?_) (fun c4 => ?_)
 ·have hlt : x.i < n ∧ x.i < a.length := by simpa using c4
  have b2 := base_ok (e := true) v1.inv hb0 hN0 hs.hc (m := x.i) (by omega);have b3 := b2.len;have b4 := cOs_le (h := a) (m := x.i + 1) (by omega);rw [cOs_succ] at b4;refine zL (zA ?_);refine zB ?_;refine zO ?_;refine zE tabT [1031] 700 rfl ?_;refine zH ?_;refine yK _ _ (skObj_G a (n : Nat) (Skt.base (n : Nat) true a (Skt.vs (n : Nat) ⟨[],[]⟩ l) x.i) (x.i : Nat) true hb0 hN0 hs.hc (by omega) (by omega) b2.inv (by rw [Int.toNat_natCast];omega)) rfl ?_;refine zH ?_;refine zC (zJ (zA ?_));refine ev_Q tabT [] 800 ?_;have hN := base_succ (n : Nat) true a (Skt.vs (n : Nat) ⟨[],[]⟩ l) x.i;exact zP ⟨x.i + 1,by omega⟩ ⟨⟨Sub.int (by push_cast;rfl),le_t⟩,⟨⟨rfl,Sub.refl _,rfl,Sub.refl _,rfl,Sub.mo (congrArg (fun k : Skt => k.ord.length) hN).symm,rfl,Sub.mo (congrArg (fun k : Skt => k.out.length) hN).symm,rfl,trivial⟩,SubO.mp (congrArg (fun k : Skt => D.pvss (k.ord.map iD)) hN).symm,SubO.mp (congrArg (fun k : Skt => D.pvss (k.out.map u8D)) hN).symm,le_o⟩,rfl,rfl⟩ (by show a.length - (x.i + 1) < a.length - x.i;omega)
 ·have hke : x.i = min n a.length := by have := x.le;simp at c4;omega
  refine yB (zW (zX (zS (zA ?_))));refine zB ?_;refine ev_R tabT [] 800 ?_;refine zO ?_;refine zY (ι := Rn (n : Nat) true a (min n a.length) (cVs l) (Skt.run (n : Nat) true a a.length 0 (Skt.base (n : Nat) true a (Skt.vs (n : Nat) ⟨[],[]⟩ l) (min n a.length)))) [7] [] 850 (fun y => [(9,.v (.int .i64 y.i))]) (fun y => [(103,.box 169 [.sl me 10 a obD ob0,.v (.int .i64 (n : Nat)),.mo 200 (y.k).ord.length,.mo 201 (y.k).out.length]),(200,.mrow 3 1 (.map (y.k).ord iD 0)),(201,.mrow 5 1 (.map (y.k).out u8D 0))]) (fun y => a.length - y.i) (Rn.start true (Skt.base (n : Nat) true a (Skt.vs (n : Nat) ⟨[],[]⟩ l) (min n a.length)) b1.inv (by have := b1.len;omega)) ?_;refine ⟨⟨⟨Sub.int rfl,le_t⟩,⟨⟨rfl,Sub.refl _,rfl,Sub.refl _,rfl,Sub.mo (by rw [hke];rfl),rfl,Sub.mo (by rw [hke];rfl),rfl,trivial⟩,SubO.mp (by rw [hke];rfl),SubO.mp (by rw [hke];rfl),le_o⟩,rfl,rfl⟩,fun y => ?_⟩;have yl := y.inv.len hb0;have yo := y.le;have yb := y.bound hm1 hm2;refine zB ?_;refine ev_R tabT [] 900 ?_;refine zR rfl (fun c8 => ?_) (fun c8 => ?_)
  ·have hlt2 : y.i < y.k.ord.length := by simpa using c8
   have y1 := y.at hlt2;have y2 := y.cost hlt2 hm1 hm2;refine zL (zA ?_);refine zB ?_;refine zO ?_;refine zE tabT [1049] 1100 rfl ?_;repeat (first | refine zF ?_ | refine zG ?_ | refine sn261 ?_)
   refine yK _ _ (skObj_G a (n : Nat) y.k (y.k.ord.getD y.i 0) true hb0 hN0 hs.hc (by omega) y1.2 y.inv (by omega)) rfl ?_;repeat (first | refine zF ?_ | refine zG ?_ | refine sn261 ?_)
   refine zC (zJ (zA ?_));refine ev_Q tabT [] 1200 ?_;exact zP (y.next hlt2 hb0 hN0 hs.hc) ⟨⟨Sub.int (by show (y.i : Int) + 1 = ((y.i + 1 : Nat) : Int);push_cast;rfl),le_t⟩,⟨⟨rfl,Sub.refl _,rfl,Sub.refl _,rfl,Sub.mo (rfl),rfl,Sub.mo (rfl),rfl,trivial⟩,SubO.mp (rfl),SubO.mp (rfl),le_o⟩,rfl,rfl⟩ (by show a.length - (y.i + 1) < a.length - y.i;omega)
  ·have hfe := y.fin (by simpa using c8);refine yB (zW (zX (zS (zA ?_))));refine ev_freeze 201 rfl (by repeat (first | exact trivial | exact rfl | refine ⟨?_,?_⟩)) (by repeat (first | exact trivial | exact (fun _ => rfl) | exact (fun h => absurd h (by decide)) | exact rfl | refine ⟨?_,?_⟩)) ?_;refine zB (zE tabT [] 1200 rfl ?_);repeat (first | refine zF ?_ | refine zG ?_ | refine zQ (by first | rfl | exact (congrArg (List.map u8D) (rowsB_map _)).symm | first | exact trivial | omega | exact ini (by omega) (by omega) | (intro hh;simp at hh;exact ini (by omega) (by omega)) | (intro hh;simp at hh ⊢;omega) | (simp at *;omega) | (simp_all;done)) ?_)
   refine zC (zA (zM ?_));exact FinV.ret rfl (SubP.str (by unfold settledS;exact (congrArg (fun l : List UInt8 => (⟨l.toArray⟩ : ByteArray)) (rowsB_map _)).trans (congrArg (fun k : Skt => (⟨k.out.toArray⟩ : ByteArray)) hfe)))
variable {md me : Bool}
def plnD (l : List St) (s : St) : D := .agg (stsD l :: stD s)
variable {md me : Bool}
def byV (t : ByteArray) : Vl := ⟨5,false,[],false,[],t,0⟩
theorem SubP.ownRows {α : Type} {k sz : Nat} {rows : List (List D)} {l : List α} {f : α → List D} {e : α} (h : RowsP rows (l.map f)) : SubP (.own k sz rows) (.sl false sz l f e) := fun w s v hv => by
 have h1 := rowsP_sl h hv;rw [yE,List.map_map] at h1;exact h1
def spV (s : St) : List Vl := nuV s.k :: nuV s.c :: byV s.s :: s.v :: s.w :: s.l
def spW (s : St) : List Vl := nuV (s.l.length : Nat) :: spV s
def pvS (L : List St) : List Vl := L.flatMap spW
structure StI (s : St) : Prop where
 k1 : -9223372036854775808 ≤ s.k
 k2 : s.k ≤ 9223372036854775807
 c1 : -9223372036854775808 ≤ s.c
 c2 : s.c ≤ 9223372036854775807
 l : s.l.length ≤ 1000000
theorem spW_len {s : St} (h : StI s) : (spW s).length ≤ 1000006 := by
 have := h.l;show s.l.length + 1 + 1 + 1 + 1 + 1 + 1 ≤ _;omega
theorem pvS_len : ∀ {L : List St},(∀ s ∈ L,StI s) → (pvS L).length ≤ L.length * 1000006
 | [],_ => Nat.zero_le _
 | s :: L,h => by
  have h1 := spW_len (h s List.mem_cons_self);have h2 := pvS_len (L := L) fun x hx => h x (List.mem_cons_of_mem _ hx);rw [pvS,List.flatMap_cons,List.length_append,List.length_cons];rw [pvS] at h2;omega
theorem pvS_next {L : List St} {i : Nat} (h : i < L.length) : pvS (L.take (i + 1)) = pvS (L.take i) ++ spW (L.getD i st0) := by
 rw [List.take_add_one,List.getElem?_eq_getElem h,List.getD_eq_getElem?_getD,List.getElem?_eq_getElem h,pvS,pvS,List.flatMap_append];simp
theorem st_at {L : List St} {i : Nat} (h : i < L.length) (hL : ∀ s ∈ L,StI s) : StI (L.getD i st0) := by
 rw [List.getD_eq_getElem?_getD,List.getElem?_eq_getElem h];exact hL _ (List.getElem_mem _)
noncomputable def sameE (h a : List Ob) (l : List St) (s : St) (b : List Ob) (l' : List St) (s' : St) : Bool := (decide ((h.length : Int) ≤ (a.length : Int)) && decide ((l.length : Int) = (l'.length : Int))) && decide (settledS a h.length (pvS (s :: l)) = settledS b h.length (pvS (s' :: l')))
theorem sn262 {P : Program} {K : DS → Prop} {p : Prop} {r : Out} (hr : r.sat P K) (hp : p := by first | exact qG (by have := hs.l;omega) | (simp only [List.length_map,List.length_cons,List.length_nil];have := hs.l;omega) | first | exact trivial | omega | exact ini (by omega) (by omega) | (intro hh;simp at hh;exact ini (by omega) (by omega)) | (intro hh;simp at hh ⊢;omega) | (simp at *;omega) | (simp_all;done)) : (Out.need p r).sat P K := ⟨hp,hr⟩
theorem StepValues_ok (s : St) (hs : StI s) : Fn Tryz.prog 131 [.agg (stD s)] (.sl false 7 (spV s) vlD vl0) := by
 refine yJ tabT Tryz.func131 rfl rfl rfl rfl rfl rfl ?_;intro w0 s0 mx;refine ev_R tabT [] 100 ?_;refine zB (zV tabT [16,19] [[],[0],[0,1],[],[3],[0,1,2,3,4],[],[6],[6,7],[],[9],[],[11],[0,1,2,3,4,5,6,7,8,9,10,11,12],[],[14],[0,1,2,3,4,5,6,7,8,9,10,11,12,13,14,15],[0,1,2,3,4,5,6,7,8,9,10,11,12,13,14,15,16]] 200 mixT (by kernel_rfl) rfl ?_);repeat (first | refine zF ?_ | refine zG ?_ | refine sn262 ?_)
 refine zT _ (N_ok s.k hs.k1 hs.k2) rfl ?_;repeat (first | refine zF ?_ | refine zG ?_ | refine sn262 ?_)
 refine zT _ (N_ok s.c hs.c1 hs.c2) rfl ?_;repeat (first | refine zF ?_ | refine zG ?_ | refine sn262 ?_)
 refine zC (zA (zM ?_));exact FinV.ret rfl (SubP.ownRows (by exact ⟨SubPs.refl _,SubPs.refl _,⟨SubP.refl _,SubP.refl _,SubP.nilSl rfl,SubP.refl _,SubP.nilSl rfl,SubP.refl _,SubP.refl _,trivial⟩,SubPs.refl _,SubPs.refl _,RowsP.refl _⟩))
theorem sn263 {P : Program} {K : DS → Prop} {p : Prop} {r : Out} (hr : r.sat P K) (hp : p := by first | (simp only [List.length_map,List.length_cons,List.length_nil];omega) | first | exact trivial | omega | exact ini (by omega) (by omega) | (intro hh;simp at hh;exact ini (by omega) (by omega)) | (intro hh;simp at hh ⊢;omega) | (simp at *;omega) | (simp_all;done)) : (Out.need p r).sat P K := ⟨hp,hr⟩
theorem sn264 {P : Program} {K : DS → Prop} {p : Prop} {r : Out} (hr : r.sat P K) (hp : p := by first | (simp only [List.length_append,List.length_map,List.length_cons,List.length_nil];have : (spV ((s :: l).getD x.1 st0)).length + 1 = (spW ((s :: l).getD x.1 st0)).length := rfl;omega) | first | exact trivial | omega | exact ini (by omega) (by omega) | (intro hh;simp at hh;exact ini (by omega) (by omega)) | (intro hh;simp at hh ⊢;omega) | (simp at *;omega) | (simp_all;done)) : (Out.need p r).sat P K := ⟨hp,hr⟩
theorem PlanValues_ok (l : List St) (s : St) (hl : l.length ≤ 1000) (hs : ∀ t ∈ s :: l,StI t) : Fn Tryz.prog 80 [plnD l s] (.sl false 7 (pvS (s :: l)) vlD vl0) := by
 have hL : (s :: l).length = l.length + 1 := rfl;refine yJ tabT Tryz.func80 rfl rfl rfl rfl rfl rfl ?_;intro w0 s0 mx;refine ev_R tabT [] 100 ?_;refine ev_R tabT [] 200 ?_;refine yN 3 32 7 rfl ?_;refine zB ?_;refine zB (zE tabT [8,11] 300 rfl ?_);repeat (first | refine zF ?_ | refine zG ?_ | refine zQ (by first | exact qG (by omega) | (simp only [List.length_map,List.length_cons,List.length_nil];omega) | first | exact trivial | omega | exact ini (by omega) (by omega) | (intro hh;simp at hh;exact ini (by omega) (by omega)) | (intro hh;simp at hh ⊢;omega) | (simp at *;omega) | (simp_all;done)) ?_)
 refine zC (zA ?_);refine yF [3,12,13] [200] 310 [(11,.sl false 18 (s :: l) stD st0)] [] ?_;refine ⟨⟨⟨Sub.ownSl rfl,le_t⟩,le_o,rfl,rfl⟩,?_⟩;refine zO ?_;refine zY (ι := {i : Nat // i ≤ (s :: l).length}) [11,12] [] 350 (fun x => [(13,.v (.int .i64 x.1)),(3,.own 200 7 ((pvS ((s :: l).take x.1)).map vlD))]) (fun x => [(200,.row 32 7 ((pvS ((s :: l).take x.1)).map vlD).length)]) (fun x => (s :: l).length - x.1) ⟨0,Nat.zero_le _⟩ ?_;refine ⟨⟨le_t,le_o,rfl,rfl⟩,fun x => ?_⟩;have hk0 : x.1 ≤ (s :: l).length := x.2;refine ev_R tabT [] 400 ?_;refine zB ?_;refine zR rfl (fun c3 => ?_) (fun c3 => ?_)
 ·have hlt : x.1 < (s :: l).length := by simp at c3 ⊢;omega
  have hsi := st_at hlt hs;have hsl := hsi.l;have hp1 := pvS_len (L := (s :: l).take x.1) (fun t ht => hs t (List.mem_of_mem_take ht));rw [List.length_take] at hp1;have hp2 : min x.1 (s :: l).length ≤ 1000 := by omega
  have hp3 := spW_len hsi;refine zL (zA ?_);refine zB ?_;refine zO ?_;refine ev_R tabT [] 500 ?_;refine yF [3,5,11,12,13] [200,402] 510 [] [(402,.box 47 (stD ((s :: l).getD x.1 st0)))] ?_;refine ⟨⟨le_t,⟨⟨rfl,SubL.same rfl⟩,le_o⟩,rfl,rfl⟩,?_⟩;refine zB (zE tabT [] 600 rfl ?_);repeat (first | refine zF ?_ | refine zG ?_ | refine sn263 ?_)
  refine zT _ (N_ok (((s :: l).getD x.1 st0).l.length : Nat) (by omega) (by omega)) rfl ?_;repeat (first | refine zF ?_ | refine zG ?_ | refine sn263 ?_)
  refine zC (zA ?_);refine zE tabT [] 700 rfl ?_;repeat (first | refine zF ?_ | refine zG ?_ | refine sn264 ?_)
  refine zT _ (StepValues_ok ((s :: l).getD x.1 st0) hsi) rfl ?_;repeat (first | refine zF ?_ | refine zG ?_ | refine sn264 ?_)
  refine zC (zJ (zA ?_));refine ev_Q tabT [] 800 ?_;exact zP ⟨x.1 + 1,by omega⟩ ⟨⟨Sub.int (by push_cast;rfl),Sub.own (by rw [pvS_next hlt,List.map_append,List.append_assoc];rfl),le_t⟩,⟨⟨rfl,rfl,by rw [pvS_next hlt];simp only [List.length_append,List.length_map,List.length_cons,List.length_nil];have : (spW ((s :: l).getD x.1 st0)).length = (spV ((s :: l).getD x.1 st0)).length + 1 := rfl;omega⟩,le_o⟩,rfl,rfl⟩ (by show (s :: l).length - (x.1 + 1) < (s :: l).length - x.1;omega)
 ·have hke : x.1 = (s :: l).length := by simp at c3;omega
  refine yB (zW (zX (zS (zA ?_))));refine ev_R tabT [] 900 ?_;refine zM ?_;exact FinV.ret rfl (SubP.ownSl (by rw [List.take_of_length_le (by omega)]))
theorem SameEffect_ok (h a : List Ob) (l : List St) (s : St) (b : List Ob) (l' : List St) (s' : St) (hh : h.length ≤ 2000000) (hl : l.length ≤ 1000) (hl' : l'.length ≤ 1000) (hs : ∀ t ∈ s :: l,StI t) (hs' : ∀ t ∈ s' :: l',StI t) (ha : Skc a (pvS (s :: l))) (hb : Skc b (pvS (s' :: l'))) : Fn Tryz.prog 34 [hpD md h,hpD me a,plnD l s,hpD me b,plnD l' s'] (.v (.bool (sameE h a l s b l' s'))) := by
 refine yJ tabT Tryz.func34 rfl rfl rfl rfl rfl rfl ?_;intro w0 s0 mx;refine ev_R tabT [] 100 ?_;refine ev_R tabT [] 200 ?_;refine zB (zV tabT [] [[],[0],[0,1],[],[0,1,2,3],[0,1,2,3,4],[0,1,2,3,4,5],[0,1,2,3,4,5,6],[0,1,2,3,4,5,6,7],[0,1,2,3,4,5],[0,1,2,3,4,5,9],[0,1,2,3,4,5,9,10],[0,1,2,3,4,5,6,7,8,9,10,11],[0,1,2,3,4,5,6,7,8,9,10,11,12],[0,1,2,3,4,5,6,7,8,9,10,11,12,13],[0,1,2,3,4,5,6,7,8,9,10,11,12,13,14],[0,1,2,3,4,5,6,7,8,9,10,11,12,13,14],[0,1,2,3,4,5,6,7,8,9,10,11,12,13,14],[0,1,2,3,4,5,6,7,8,9,10,11,12,13,14,17],[0,1,2,3,4,5,6,7,8,9,10,11,12,13,14,15,16,17,18],[0,1,2,3,4,5,6,7,8,9,10,11,12,13,14],[0,1,2,3,4,5,6,7,8,9,10,11,12,13,14],[0,1,2,3,4,5,6,7,8,9,10,11,12,13,14],[0,1,2,3,4,5,6,7,8,9,10,11,12,13,14,15,16,17,18,19,22],[0,1,2,3,4,5,6,7,8,9,10,11,12,13,14,15,16,17,18,19,20,21,22,23],[0,1,2,3,4,5,6,7,8,9,10,11,12,13,14,15,16,17,18,19,20,21,22,23,24],[0,1,2,3,4,5,6,7,8,9,10,11,12,13,14,15,16,17,18,19,20,21,22,23,24,25],[0,1,2,3,4,5,6,7,8,9,10,11,12,13,14,15,16,17,18,19,20,21,22,23,24,25,26]] 300 mixT (by kernel_rfl) rfl ?_);refine zH ?_;refine yG _ (fun hg18 => PlanValues_ok l s hl hs) rfl ?_;refine zH ?_;refine yG _ (fun hg19 => Settled_ok a h.length _ ha hh) rfl ?_;refine zH ?_;refine yG _ (fun hg23 => PlanValues_ok l' s' hl' hs') rfl ?_;refine zH ?_;refine yG _ (fun hg24 => Settled_ok b h.length _ hb hh) rfl ?_;refine zH ?_;refine zC (zA (zM ?_));exact FinV.ret rfl (SubP.bool (by unfold sameE;simp [Bool.and_assoc]))
theorem SameStepEffect_ok (h a : List Ob) (s : St) (b : List Ob) (s' : St) (hh : h.length ≤ 2000000) (hs : StI s) (hs' : StI s') (ha : Skc a (pvS [s])) (hb : Skc b (pvS [s'])) : Fn Tryz.prog 16 [hpD md h,hpD me a,.agg (stD s),hpD me b,.agg (stD s')] (.v (.bool (sameE h a [] s b [] s'))) := by
 refine yJ tabT Tryz.func16 rfl rfl rfl rfl rfl rfl ?_;intro w0 s0 mx;refine ev_R tabT [] 100 ?_;refine zB (zE tabT [] 200 rfl ?_);refine zH ?_;refine zT _ ((SameEffect_ok h a [] s b [] s' hh (by decide) (by decide) (fun t ht => by rw [List.mem_singleton.1 ht];exact hs) (fun t ht => by rw [List.mem_singleton.1 ht];exact hs') ha hb).args ⟨SubP.refl _,SubP.refl _,SubP.agg ⟨SubP.nilSl rfl,SubPs.refl _⟩,SubP.refl _,SubP.agg ⟨SubP.nilSl rfl,SubPs.refl _⟩,trivial⟩) rfl ?_;refine zH ?_;refine zC (zA (zM ?_));exact FinV.ret rfl (SubP.refl _)
theorem vok_lim {v : Vl} (h : vokS v = true) : v.nl.length ≤ 128 ∧ v.dl.length ≤ 128 ∧ v.s.size ≤ 4000 := by
 have hz : ∀ {b : Bool} {l : List Nat},zI b l = true → l.length ≤ 128 := fun h => by rw [zI,smI_iff] at h;rw [h.2];decide
 have hi : ∀ {b : Bool} {l : List Nat},intOk b l = true → l.length ≤ 128 := fun h => by
  simp only [intOk,Bool.and_eq_true,decide_eq_true_eq] at h;exact h.1
 have he : ∀ {s : ByteArray},emS s = true → s.size ≤ 4000 := fun h => by
  have := of_decide_eq_true h;subst this;decide
 unfold vokS at h;repeat' split at h
 all_goals (try simp only [Bool.and_eq_true,decide_eq_true_eq] at h)
 ·exact ⟨hz h.1.1.1,hz h.1.1.2,he h.1.2⟩
 ·exact ⟨hz h.1.1.1,hz h.1.1.2,he h.1.2⟩
 ·exact ⟨hi h.1.1.1,hz h.1.1.2,he h.1.2⟩
 ·have hr := h.1.1.1;simp only [ratS,Bool.and_eq_true] at hr;exact ⟨hi hr.1.1.1,hi hr.1.1.2,he h.1.2⟩
 ·exact ⟨hz h.1.1.1.1,hz h.1.1.1.2,by have := h.2;omega⟩
 ·exact ⟨hz h.1.1.1,hz h.1.1.2,by have := h.2;omega⟩
 ·have hd := h.2;simp only [dotS,Bool.and_eq_true,decide_eq_true_eq] at hd;exact ⟨hz h.1.1.1,hz h.1.1.2,by have := hd.2;omega⟩
 ·exact ⟨hz h.1.1,hz h.1.2,he h.2⟩
 ·cases h
theorem vok_cV {v : Vl} (h : vokS v = true) : cV v ≤ 2108 + 10 * v.s.size := by
 have := vok_lim h;unfold cV;omega
theorem fix_lim (o : Ob) (v : Vl) : cV (fixV o v) = cV v ∧ (fixV o v).s = v.s := by
 unfold fixV;split <;> exact ⟨rfl,rfl⟩
theorem cVs_le : ∀ {l : List Vl},(∀ v ∈ l,cV v ≤ 2108 + 10 * v.s.size) → cVs l ≤ 2108 * l.length + 10 * (l.map fun v => v.s.size).sum + 1
 | [],_ => Nat.le_refl _
 | v :: l,h => by
  have h1 := h v List.mem_cons_self;have h2 := cVs_le (l := l) fun x hx => h x (List.mem_cons_of_mem _ hx);unfold cVs at h2 ⊢;rw [List.map_cons,List.sum_cons,List.map_cons,List.sum_cons,List.length_cons];omega
theorem sumN_range (f : Nat → Nat) : ∀ n,sumN f n = ((List.range n).map f).sum
 | 0 => rfl
 | n + 1 => by rw [sumN,sumN_range f n,List.range_succ,List.map_append,List.sum_append,List.map_singleton,List.sum_singleton]
theorem range_getD {α : Type} (g : α → Nat) (d : α) : ∀ l : List α,((List.range l.length).map fun j => g (l.getD j d)).sum = (l.map g).sum
 | [] => rfl
 | x :: l => by
  rw [List.length_cons,List.range_succ_eq_map,List.map_cons,List.sum_cons,List.map_map,List.map_cons,List.sum_cons,← range_getD g d l];rfl
theorem bytO_eq (o : Ob) : bytO o (kvs o).length = ((kvs o).map fun v => v.s.size).sum := by
 rw [bytO,sumN_range];exact range_getD (fun v : Vl => v.s.size) vl0 (kvs o)
theorem nmF_ok : ∀ {l seen : List ByteArray},nmF seen l = 0 → ∀ s ∈ l,nameOkS s = true
 | [],_,_,_,h => by cases h
 | x :: l,seen,h,s,hs => by
  rw [nmF] at h;split at h
  ·cases h
  ·rename_i h1;split at h
   ·cases h
   ·rcases List.mem_cons.1 hs with rfl | hs
    ·simpa using h1
    ·exact nmF_ok h s hs
theorem nameOk_size {s : ByteArray} (h : nameOkS s = true) : s.size ≤ 24 := by
 simp only [nameOkS,Bool.and_eq_true,Bool.not_eq_true',Bool.or_eq_false_iff,decide_eq_false_iff_not] at h;have := h.1.2;omega
theorem names_sum : ∀ {l : List ByteArray},(∀ s ∈ l,s.size ≤ 24) → (l.map fun s => s.size + 1).sum ≤ 25 * l.length
 | [],_ => Nat.le_refl _
 | s :: l,h => by
  have h1 := h s List.mem_cons_self;have h2 := names_sum (l := l) fun x hx => h x (List.mem_cons_of_mem _ hx);rw [List.map_cons,List.sum_cons,List.length_cons];omega
theorem name_size {o : Ob} (hs : qN o = 0) (hz : sizesS o = 0) : o.name.size ≤ 60 := by
 by_cases hc : Lib.contains (usedS o.kind).data.toList [110] = true
 ·unfold sizesS at hz;rw [hc,Bool.true_and] at hz;split at hz
  ·cases hz
  ·rename_i h1;have h1 : nameS o = true := by simpa using h1
   unfold nameS at h1;split at h1
   ·simp only [dotS,Bool.and_eq_true,decide_eq_true_eq] at h1;have := h1.2;omega
   ·have := nameOk_size h1;omega
 ·unfold qN at hs;split at hs
  ·rename_i h1;have h2 := List.all_eq_true.1 h1 0 (by decide);have e : (lettersB.extract ((0 : Nat) : Int).toNat (((0 : Nat) : Int) + 1).toNat).data.toList = [110] := by decide +kernel
   unfold ltP at h2;rw [e] at h2;have hc : Lib.contains (usedS o.kind).data.toList [110] = false := by simpa using hc
   rw [hc] at h2;have h3 : decide (o.name = ⟨#[]⟩) = true := by simpa [emptyS] using h2
   have := of_decide_eq_true h3;rw [this];decide
  ·cases hs
theorem sizes_le {o : Ob} (hz : sizesS o = 0) : o.names.length ≤ 200 ∧ o.items.length ≤ 1000 ∧ o.keys.length ≤ 1000 ∧ o.refs.length ≤ 1000 := by
 unfold sizesS at hz;split at hz
 ·cases hz
 ·split at hz
  ·cases hz
  ·rename_i h2;simp only [Bool.or_eq_true,decide_eq_true_eq,not_or] at h2;obtain ⟨h3,h4⟩ := h2;unfold mx3 at h3;repeat' split at h3
   all_goals omega
theorem order_le {h : List Ob} {o : Ob} {i : Int} (hs : qN o = 0) (ho : orderOkS h o i = true) : o.order.length ≤ 40 := by
 by_cases hk : o.kind = 9
 ·unfold orderOkS at ho;rw [if_neg (fun hh => hh hk)] at ho;simp only [Bool.and_eq_true,decide_eq_true_eq] at ho;rw [ho.2,List.length_append];have : (orderS (ordsS h o)).1.length ≤ 39 := by
   unfold orderS;repeat' split
   ·exact Nat.zero_le _
   ·exact Nat.zero_le _
   ·exact Nat.zero_le _
   ·show (mgS (ordsS h o)).1.length ≤ 39;omega
  show 1 + _ ≤ _;omega
 ·rw [(sh_of hs).2.2.2.2 hk];exact Nat.zero_le _
theorem cO_hi {h : List Ob} {o : Ob} {i : Nat} (g : Uho h o i) : cO o ≤ 6704 + 2108 * (o.items.length + o.keys.length + o.refs.length) + 10 * ((kvs o).map fun v => v.s.size).sum := by
 have v := vs_of g.vals;have h1 := name_size g.shape g.sizes;have h2 := sizes_le g.sizes;have h3 := order_le g.shape g.order;have h4 := names_sum fun s hs => nameOk_size (nmF_ok g.names s hs);have hv : ∀ x ∈ o.keys ++ o.items,cV x ≤ 2108 + 10 * x.s.size := fun x hx => by
  have e := fix_lim o x;have := vok_cV (v.ok x hx);rw [e.1,e.2] at this;exact this
 have h5 := cVs_le (l := o.keys) fun x hx => hv x (List.mem_append.2 (.inl hx));have h6 := cVs_le (l := o.items) fun x hx => hv x (List.mem_append.2 (.inr hx));have h7 : ((kvs o).map fun v => v.s.size).sum = (o.items.map fun v => v.s.size).sum + (o.keys.map fun v => v.s.size).sum := by
  rw [kvs,List.map_append,List.sum_append]
 have hc : cO o = 120 + 10 * o.name.size + (o.names.map fun s => s.size + 1).sum + 23 * o.refs.length + 23 * o.order.length + cVs o.keys + cVs o.items := rfl;rw [hc,h7];omega
theorem bg_ok : (List.range 49).all (fun i => decide (cO (bgO i) ≤ 6704) && (((bgO i).refs.all fun n => decide (0 ≤ n) && decide (n < 49)) && ((bgO i).order.all fun n => decide (0 ≤ n) && decide (n < 49)))) = true := by decide +kernel
theorem bgc_at {i : Nat} (hi : i < 49) : cO (bgO i) ≤ 6704 ∧ (∀ n ∈ (bgO i).refs,0 ≤ n ∧ n < 49) ∧ ∀ n ∈ (bgO i).order,0 ≤ n ∧ n < 49 := by
 have h := List.all_eq_true.1 bg_ok i (List.mem_range.2 hi);simp only [Bool.and_eq_true,decide_eq_true_eq,List.all_eq_true] at h;exact ⟨h.1,h.2.1,h.2.2⟩
theorem obAt_getD (h : List Ob) (i : Nat) : obAt h (i : Nat) = h.getD i ob0 := by
 show h.getD ((i : Nat) : Int).toNat ob0 = _;rw [Int.toNat_natCast]
theorem inH_rng {h : List Ob} {n : Int} (hn : qK h n = true) : 0 ≤ n ∧ n < (h.length : Int) := by
 have := isObj_lt hn;omega
theorem uh_obC {h : List Ob} (g : Uh h) (hh : HpIn h) {i : Nat} (hi : i < h.length) : ObC h.length (obAt h i) := by
 have hin := hh.at (i : Nat);have hlo := g.lo;by_cases h49 : i < 49
 ·have e := g.lo_at h49;have hb := bgc_at h49;rw [e] at hin ⊢;exact ⟨hin,fun hk => absurd hk (by show ¬ (9 : Int) = 18;decide),fun hk => absurd hk (by show ¬ ((9 : Int) = 10 ∨ (9 : Int) = 7);decide),fun n hn => by have := hb.2.1 n hn;omega,fun n hn => by have := hb.2.2 n hn;omega,(fun v hv => by cases hv),(fun v hv => by cases hv)⟩
 ·have u := g.hi_at (by omega) hi;have v := vs_of u.vals;refine ⟨hin,fun hk => ?_,fun _ => (inH_rng v.cls).2,fun n hn => inH_rng (v.refs n hn),fun n hn => inH_rng (v.order n hn),fun x hx => ⟨hin.kv x hx,fun hk => (inH_rng (v.vals x (List.mem_append.2 (.inl hx)) hk)).2⟩,fun x hx => ⟨hin.iv x hx,fun hk => (inH_rng (v.vals x (List.mem_append.2 (.inr hx)) hk)).2⟩⟩;have hst := (sh_of u.shape).2.2.1;by_cases h0 : (obAt h i).state = 0
  ·omega
  ·have h1 := v.weak hk h0;rw [wrap_pred (by omega) hin.st.2] at h1;exact (inH_rng h1).2
theorem mem_obAt {h : List Ob} {o : Ob} (ho : o ∈ h) : ∃ i,i < h.length ∧ o = obAt h (i : Nat) := by
 obtain ⟨i,hi,e⟩ := List.getElem_of_mem ho;exact ⟨i,hi,by rw [obAt_getD,List.getD_eq_getElem?_getD,List.getElem?_eq_getElem hi,← e];rfl⟩
theorem uh_hpC {h : List Ob} (g : Uh h) (hh : HpIn h) : HpC h := fun o ho => by
 obtain ⟨i,hi,rfl⟩ := mem_obAt ho;exact uh_obC g hh hi
theorem cH_map (h : List Ob) : cH h = (h.map cO).sum := range_getD cO ob0 h
theorem pr_sums {h : List Ob} (hp : (yZ h).1 = 0) : sumN (nodN h) h.length ≤ 20000 ∧ sumN (bytN h) h.length ≤ 200000 := by
 have g := uh_of hp;unfold yZ at hp;rw [if_neg (by have := g.hi;omega),if_neg (by have := g.lo;omega)] at hp;have hn : (List.range h.length).find? (fun i => !decide (codeS h i = 0)) = none := by
  rw [List.find?_range_eq_none];intro i hi;simp [g.code i hi]
 rw [hn] at hp
 dsimp only at hp
 split at hp
 ·cases hp
 ·omega
theorem sum_le3 {f a b : Nat → Nat} {c : Nat} : ∀ {n : Nat},(∀ i,i < n → f i ≤ c + 2108 * a i + 10 * b i) → ((List.range n).map f).sum ≤ c * n + 2108 * ((List.range n).map a).sum + 10 * ((List.range n).map b).sum
 | 0,_ => Nat.zero_le _
 | n + 1,h => by
  have h1 := sum_le3 (n := n) fun i hi => h i (by omega);have h2 := h n (by omega);rw [List.range_succ,List.map_append,List.sum_append,List.map_append,List.sum_append,List.map_append,List.sum_append,List.map_singleton,List.map_singleton,List.map_singleton,List.sum_singleton,List.sum_singleton,List.sum_singleton,Nat.mul_succ];omega
theorem uh_cost {h : List Ob} (hp : (yZ h).1 = 0) : cH h ≤ 80000000 := by
 have g := uh_of hp;have hs := pr_sums hp;rw [sumN_range,sumN_range] at hs;have h1 : cH h ≤ 6704 * h.length + 2108 * ((List.range h.length).map (nodN h)).sum + 10 * ((List.range h.length).map (bytN h)).sum := by
  refine sum_le3 fun i hi => ?_;rw [← obAt_getD];by_cases h49 : i < 49
  ·have hb := (bgc_at h49).1;rw [g.lo_at h49];omega
  ·have hc := cO_hi (g.hi_at (by omega) hi);have e1 : nodN h i = (obAt h i).items.length + (obAt h i).keys.length + (obAt h i).refs.length := if_neg (by omega);have e2 : bytN h i = bytO (obAt h i) (kvs (obAt h i)).length := if_neg (by omega);rw [e1,e2,bytO_eq];exact hc
 have := g.hi;omega
theorem set_sum (f : Ob → Nat) : ∀ (h : List Ob) (r : Nat) (o : Ob),((h.set r o).map f).sum ≤ (h.map f).sum + f o
 | [],_,_ => Nat.zero_le _
 | x :: h,0,o => by
  show (((o :: h).map f).sum ≤ _);rw [List.map_cons,List.sum_cons,List.map_cons,List.sum_cons];omega
 | x :: h,r + 1,o => by
  have := set_sum f h r o;show (((x :: h.set r o).map f).sum ≤ _);rw [List.map_cons,List.sum_cons,List.map_cons,List.sum_cons];omega
theorem cH_set (h : List Ob) (r : Nat) (o : Ob) : cH (h.set r o) ≤ cH h + cO o := by
 rw [cH_map,cH_map];exact set_sum cO h r o
theorem hpC_set {h : List Ob} (hh : HpC h) {r : Nat} {o : Ob} (ho : ObC h.length o) : HpC (h.set r o) := fun x hx => by
 rw [List.length_set];rcases List.mem_or_eq_of_mem_set hx with hx | rfl
 ·exact hh x hx
 ·exact ho
theorem mem_cO {h : List Ob} {o : Ob} (ho : o ∈ h) : cO o ≤ cH h := by
 rw [cH_map];induction h with
 | nil => cases ho
 | cons x h ih =>
  rw [List.map_cons,List.sum_cons];rcases List.mem_cons.1 ho with rfl | ho
  ·omega
  ·have := ih ho;omega
theorem cVs_vok {l : List Vl} (h : ∀ v ∈ l,vokS v = true) : cVs l ≤ 42108 * l.length + 1 := by
 have h1 := cVs_le fun v hv => vok_cV (h v hv);have h2 : (l.map fun v => v.s.size).sum ≤ 4000 * l.length := by
  clear h1;induction l with
  | nil => exact Nat.le_refl _
  | cons v l ih =>
   have := ih fun x hx => h x (List.mem_cons_of_mem _ hx);have := (vok_lim (h v List.mem_cons_self)).2.2;rw [List.map_cons,List.sum_cons,List.length_cons];omega
 omega
theorem nuV_inI {n : Int} (h0 : -9223372036854775808 ≤ n) (h1 : n ≤ 9223372036854775807) : VlIn (nuV n) ∧ (nuV n).nl.length ≤ 2 := by
 have hl : (nuV n).nl.length ≤ 2 := lim_length_le (k := 2) (by show n.natAbs < _;omega);exact ⟨⟨(by decide : (-9223372036854775808 : Int) ≤ 2),(by decide : (2 : Int) ≤ 9223372036854775807),(by decide : (-9223372036854775808 : Int) ≤ 0),(by decide : (0 : Int) ≤ 9223372036854775807),lim_Dg _,(fun _ h => by cases h),by omega,(by decide : 0 ≤ 2000000),(by decide : ByteArray.empty.size ≤ 2000000)⟩,hl⟩
theorem nuV_cV {n : Int} (h0 : -9223372036854775808 ≤ n) (h1 : n ≤ 9223372036854775807) : cV (nuV n) ≤ 76 := by
 have h := (nuV_inI h0 h1).2;have e : cV (nuV n) = 60 + 10 * 0 + 8 * (nuV n).nl.length + 8 * 0 := rfl;omega
theorem nuV_C {N : Nat} {n : Int} (h0 : -9223372036854775808 ≤ n) (h1 : n ≤ 9223372036854775807) : VlC N (nuV n) := ⟨(nuV_inI h0 h1).1,fun hk => absurd hk (by show ¬ (2 : Int) = 6;decide)⟩
theorem byV_C {N : Nat} {t : ByteArray} (ht : t.size ≤ 2000000) : VlC N (byV t) := ⟨⟨(by decide : (-9223372036854775808 : Int) ≤ 5),(by decide : (5 : Int) ≤ 9223372036854775807),(by decide : (-9223372036854775808 : Int) ≤ 0),(by decide : (0 : Int) ≤ 9223372036854775807),(fun _ h => by cases h),(fun _ h => by cases h),(by decide : 0 ≤ 2000000),(by decide : 0 ≤ 2000000),ht⟩,fun hk => absurd hk (by show ¬ (5 : Int) = 6;decide)⟩
theorem vl0_C (N : Nat) : VlC N vl0 := ⟨vl0_in,fun hk => absurd hk (by show ¬ (0 : Int) = 6;decide)⟩
theorem cV_in {v : Vl} (h : VlIn v) : cV v ≤ 52000060 := by
 have := h.s;have := h.nn;have := h.dn;unfold cV;omega
structure StC (N : Nat) (s : St) : Prop where
 i : StI s
 t : s.s.size ≤ 2000000
 v : VlC N s.v
 w : VlC N s.w
 l : ∀ x ∈ s.l,VlC N x
 cl : cVs s.l ≤ 300000000
theorem spW_C {N : Nat} {s : St} (h : StC N s) : (∀ x ∈ spW s,VlC N x) ∧ (∀ x ∈ spW s,True) ∧ cVs (spW s) ≤ 450000000 := by
 have h1 := nuV_C (N := N) h.i.k1 h.i.k2;have h2 := nuV_C (N := N) h.i.c1 h.i.c2;have hl := h.i.l;have h3 := nuV_C (N := N) (n := (s.l.length : Nat)) (by omega) (by omega);refine ⟨fun x hx => ?_,fun _ _ => trivial,?_⟩
 ·unfold spW spV at hx;simp only [List.mem_cons] at hx;rcases hx with rfl | rfl | rfl | rfl | rfl | rfl | hx
  ·exact h3
  ·exact h1
  ·exact h2
  ·exact byV_C h.t
  ·exact h.v
  ·exact h.w
  ·exact h.l x hx
 ·have c1 := nuV_cV h.i.k1 h.i.k2;have c2 := nuV_cV h.i.c1 h.i.c2;have c3 := nuV_cV (n := (s.l.length : Nat)) (by omega) (by omega);have c4 : cV (byV s.s) = 60 + 10 * s.s.size + 8 * 0 + 8 * 0 := rfl;have c5 := cV_in h.v.vin;have c6 := cV_in h.w.vin;have ht := h.t;have c7 := h.cl;unfold cVs at c7 ⊢;unfold spW spV;simp only [List.map_cons,List.sum_cons];omega
theorem skc_step {h : List Ob} {s : St} (hc : HpC h) (hn : h.length ≤ 2000000) (hs : StC h.length s) (hq : cH h ≤ 600000000) : Skc h (pvS [s]) := by
 obtain ⟨h1,_,h3⟩ := spW_C hs;have e : pvS [s] = spW s := by simp [pvS]
 have hl := spW_len hs.i;exact ⟨hc,hn,by rw [e];exact h1,by rw [e];omega,by rw [e];omega⟩
theorem sameE_self {h a : List Ob} {l : List St} {s : St} (hl : h.length ≤ a.length) : sameE h a l s a l s = true := by
 unfold sameE;have : (h.length : Int) ≤ (a.length : Int) := by omega
 simp [this]
def Gv (h : List Ob) (v : Vl) : Prop := vokS v = true ∧ VlC h.length v
theorem has_gv {h : List Ob} {v : Vl} (hi : VlIn v) (hh : hasS h v = true) : Gv h v := by
 refine ⟨?_,hi,fun hk => (inH_rng (has_obj hh hk)).2⟩;simp only [hasS,Bool.and_eq_true] at hh;exact hh.1
theorem obj_gv {h : List Ob} (g : Uh h) (hh : HpIn h) {v : Vl} (hk : (objS h v).kind = 2 ∨ (objS h v).kind = 3 ∨ (objS h v).kind = 4) : (∀ x ∈ (objS h v).keys,Gv h x) ∧ ∀ x ∈ (objS h v).items,Gv h x := by
 obtain ⟨h6,ho,e⟩ := objS_of (h := h) (v := v) (by omega);rw [e] at hk ⊢;have hin := yM ho;have h49 : ¬ v.r.toNat < 49 := fun hl => by
  rw [show obAt h v.r = bgO v.r.toNat from g.lo_at hl] at hk;exact absurd hk (by show ¬ ((9 : Int) = 2 ∨ (9 : Int) = 3 ∨ (9 : Int) = 4);decide)
 have u := g.hi_at (i := v.r.toNat) (by omega) hin.2;have oc := uh_obC g hh (i := v.r.toNat) hin.2;rw [← obAt_nat hin] at u oc;have vs := vs_of u.vals;have hok : ∀ x ∈ (obAt h v.r).keys ++ (obAt h v.r).items,vokS x = true := fun x hx => by
  have := vs.ok x hx
  rwa [fixV,if_neg (by omega)] at this
 exact ⟨fun x hx => ⟨hok x (List.mem_append.2 (.inl hx)),oc.keys x hx⟩,fun x hx => ⟨hok x (List.mem_append.2 (.inr hx)),oc.items x hx⟩⟩
theorem obj_C {h : List Ob} (hc : HpC h) {v : Vl} (hk : (objS h v).kind ≠ 0) : ObC h.length (objS h v) ∧ cO (objS h v) ≤ cH h := by
 obtain ⟨h6,ho,e⟩ := objS_of (h := h) (v := v) hk;rw [e];have hl := (yM ho).2;have hm : obAt h v.r ∈ h := by
  show h.getD v.r.toNat ob0 ∈ h;rw [List.getD_eq_getElem?_getD,List.getElem?_eq_getElem hl];exact List.getElem_mem _
 exact ⟨hc _ hm,mem_cO hm⟩
theorem set_C {h : List Ob} (hc : HpC h) {v : Vl} (hk : (objS h v).kind ≠ 0) {K I : List Vl} (hK : ∀ x ∈ K,VlC h.length x) (hI : ∀ x ∈ I,VlC h.length x) (lK : K.length ≤ 2000000) (lI : I.length ≤ 2000000) :
  HpC (h.set v.r.toNat { objS h v with keys := K,items := I }) ∧ cH (h.set v.r.toNat { objS h v with keys := K,items := I }) ≤ cH h + cH h + cVs K + cVs I := by
 obtain ⟨oc,co⟩ := obj_C hc hk;have oi := oc.oin;refine ⟨hpC_set hc ⟨⟨oi.kd,oi.cl,oi.co,oi.st,oi.nm,oi.rl,oi.ol,oi.nl,lI,lK,oi.ns,fun x hx => (hI x hx).vin,fun x hx => (hK x hx).vin⟩,oc.st,oc.cls,oc.refs,oc.order,hK,hI⟩,?_⟩;have h1 := cH_set h v.r.toNat { objS h v with keys := K,items := I };have e1 : cO { objS h v with keys := K,items := I } = 120 + 10 * (objS h v).name.size + ((objS h v).names.map fun s => s.size + 1).sum + 23 * (objS h v).refs.length + 23 * (objS h v).order.length + cVs K + cVs I := rfl;have e2 : cO (objS h v) = 120 + 10 * (objS h v).name.size + ((objS h v).names.map fun s => s.size + 1).sum + 23 * (objS h v).refs.length + 23 * (objS h v).order.length + cVs (objS h v).keys + cVs (objS h v).items := rfl;omega
theorem cVs_gv {h : List Ob} {l : List Vl} (hl : ∀ x ∈ l,Gv h x) : cVs l ≤ 42108 * l.length + 1 := cVs_vok fun v hv => (hl v hv).1
theorem tooB_size : tooB.size ≤ 100 := by decide
theorem st_too (N : Nat) : StC N (raS 42 tooB) := ⟨⟨(by decide : (-9223372036854775808 : Int) ≤ 1),(by decide : (1 : Int) ≤ 9223372036854775807),(by decide : (-9223372036854775808 : Int) ≤ 42),(by decide : (42 : Int) ≤ 9223372036854775807),(by decide : 0 ≤ 1000000)⟩,(by have := tooB_size;show tooB.size ≤ _;omega),vl0_C N,vl0_C N,(fun _ h => by cases h),(by decide : cVs [] ≤ 300000000)⟩
structure Ef (h h' : List Ob) (s : St) : Prop where
 len : h'.length = h.length
 st : StI s
 sk : Skc h' (pvS [s])
variable {md me : Bool}
theorem nm_le {h : List Ob} (g : Uh h) {n : Int} (hn : inH h n) : (obAt h n).name.size ≤ 700 := by
 by_cases h49 : n.toNat < 49
 ·rw [show obAt h n = bgO n.toNat from g.lo_at h49];have h1 := (bgc_at h49).1;have h2 : cO (bgO n.toNat) = 120 + 10 * (bgO n.toNat).name.size + ((bgO n.toNat).names.map fun s => s.size + 1).sum + 23 * (bgO n.toNat).refs.length + 23 * (bgO n.toNat).order.length + cVs (bgO n.toNat).keys + cVs (bgO n.toNat).items := rfl;omega
 ·have u := g.hi_at (i := n.toNat) (by omega) hn.2;rw [← obAt_nat hn] at u;have := name_size u.shape u.sizes;omega
theorem st_ra {N : Nat} {c : Int} {s : ByteArray} (h0 : 0 ≤ c) (h1 : c ≤ 1000) (hs : s.size ≤ 2000000) : StC N (raS c s) := ⟨⟨(by decide : (-9223372036854775808 : Int) ≤ 1),(by decide : (1 : Int) ≤ 9223372036854775807),(by show -9223372036854775808 ≤ c;omega),(by show c ≤ 9223372036854775807;omega),(by decide : 0 ≤ 1000000)⟩,hs,vl0_C N,vl0_C N,(fun _ h => by cases h),(by decide : cVs [] ≤ 300000000)⟩
theorem st_zero (N : Nat) : StC N st0 := ⟨⟨(by decide : (-9223372036854775808 : Int) ≤ 0),(by decide : (0 : Int) ≤ 9223372036854775807),(by decide : (-9223372036854775808 : Int) ≤ 0),(by decide : (0 : Int) ≤ 9223372036854775807),(by decide : 0 ≤ 1000000)⟩,(by decide : ByteArray.empty.size ≤ 2000000),vl0_C N,vl0_C N,(fun _ h => by cases h),(by decide : cVs [] ≤ 300000000)⟩
theorem key_stC {h : List Ob} (g : Uh h) {k : Vl} (hv : Vd h k) (N : Nat) : StC N (keyR h k) := by
 rcases key_cases g hv with hc | hc | hc
 ·rw [hc.2.2.2.2.2];have hb := pa_vd g 1001 k 1000 hv;have := nm_le g (clA_in g (cf_of g (vd_has hb)));refine st_ra (by decide) (by decide) ?_;rw [ByteArray.size_append,ByteArray.size_append];have e1 : kqB.size = 1 := rfl;have e2 : kmB.size ≤ 100 := by decide
  omega
 ·rw [hc.2.2.2];exact st_too N
 ·rw [hc.2.2.2.2.2];exact st_zero N
theorem gv_vd {h : List Ob} {v : Vl} (hs : hasS h v = true) : Vd h v := ⟨by simp only [hasS,Bool.and_eq_true] at hs;exact hs.1,fun hk => has_obj hs hk⟩
theorem ef_put {h : List Ob} (g : Uh h) (hh : HpIn h) (hp : (yZ h).1 = 0) {d k w : Vl} (hk : (objS h d).kind = 3) (hv : Vd h k) (gk : Gv h k) (gw : Gv h w) : Ef h (putH h d k w) (putR h d k w) := by
 have hc := uh_hpC g hh;have hq := uh_cost hp;have hhl := hh.len;have hx := obj_gv g hh (v := d) (by omega);have hlx := keys_le g d;unfold putH putR;by_cases c1 : ¬ (keyR h k).k = 0
 ·rw [if_pos c1,if_pos c1];exact ⟨rfl,(key_stC g hv h.length).i,skc_step hc hhl (key_stC g hv _) (by omega)⟩
 rw [if_neg c1,if_neg c1];by_cases c2 : 0 ≤ plI h (objS h d).keys k
 ·rw [if_pos c2,if_pos c2];have hI : ∀ x ∈ (objS h d).items.set (plI h (objS h d).keys k).toNat w,Gv h x := fun x hx' => by
   rcases List.mem_or_eq_of_mem_set hx' with h1 | rfl
   ·exact hx.2 x h1
   ·exact gw
  have e1 := cVs_gv hx.1;have e2 := cVs_gv hI;rw [List.length_set] at e2;obtain ⟨s1,s2⟩ := set_C hc (v := d) (by omega) (K := (objS h d).keys) (I := (objS h d).items.set (plI h (objS h d).keys k).toNat w) (fun x hx' => (hx.1 x hx').2) (fun x hx' => (hI x hx').2) (by omega) (by rw [List.length_set];omega);exact ⟨List.length_set,(st_zero h.length).i,skc_step s1 (by rw [List.length_set];exact hhl) (st_zero _) (Nat.le_trans s2 (by omega))⟩
 rw [if_neg c2,if_neg c2];by_cases c3 : ((objS h d).keys.length : Int) = 1000
 ·rw [if_pos c3,if_pos c3];exact ⟨rfl,(st_too h.length).i,skc_step hc hhl (st_too _) (by omega)⟩
 rw [if_neg c3,if_neg c3];have hK : ∀ x ∈ (objS h d).keys ++ [k],Gv h x := fun x hx' => (List.mem_append.1 hx').elim (hx.1 x) fun h1 => by rw [List.mem_singleton.1 h1];exact gk
 have hI : ∀ x ∈ (objS h d).items ++ [w],Gv h x := fun x hx' => (List.mem_append.1 hx').elim (hx.2 x) fun h1 => by rw [List.mem_singleton.1 h1];exact gw
 have e1 := cVs_gv hK;have e2 := cVs_gv hI;rw [List.length_append,List.length_singleton] at e1 e2;obtain ⟨s1,s2⟩ := set_C hc (v := d) (by omega) (K := (objS h d).keys ++ [k]) (I := (objS h d).items ++ [w]) (fun x hx' => (hK x hx').2) (fun x hx' => (hI x hx').2) (by rw [List.length_append,List.length_singleton];omega) (by rw [List.length_append,List.length_singleton];omega);exact ⟨List.length_set,(st_zero h.length).i,skc_step s1 (by rw [List.length_set];exact hhl) (st_zero _) (Nat.le_trans s2 (by omega))⟩
theorem ef_inc {h : List Ob} (g : Uh h) (hh : HpIn h) (hp : (yZ h).1 = 0) {d k : Vl} (hk : (objS h d).kind = 4) (hv : Vd h k) (gk : Gv h k) : Ef h (incH h d k) (incR h d k) := by
 have hc := uh_hpC g hh;have hq := uh_cost hp;have hhl := hh.len;have hx := obj_gv g hh (v := d) (by omega);have hlx := keys_le g d;unfold incH incR;by_cases c1 : ¬ (keyR h k).k = 0
 ·rw [if_pos c1,if_pos c1];exact ⟨rfl,(key_stC g hv h.length).i,skc_step hc hhl (key_stC g hv _) (by omega)⟩
 rw [if_neg c1,if_neg c1];by_cases c2 : 0 ≤ plI h (objS h d).keys k
 ·rw [if_pos c2,if_pos c2];exact ⟨rfl,(st_zero h.length).i,skc_step hc hhl (st_zero _) (by omega)⟩
 rw [if_neg c2,if_neg c2];by_cases c3 : ((objS h d).keys.length : Int) = 1000
 ·rw [if_pos c3,if_pos c3];exact ⟨rfl,(st_too h.length).i,skc_step hc hhl (st_too _) (by omega)⟩
 rw [if_neg c3,if_neg c3];have hK : ∀ x ∈ (objS h d).keys ++ [k],Gv h x := fun x hx' => (List.mem_append.1 hx').elim (hx.1 x) fun h1 => by rw [List.mem_singleton.1 h1];exact gk
 have e1 := cVs_gv hK;have e2 := cVs_gv hx.2;rw [List.length_append,List.length_singleton] at e1;obtain ⟨s1,s2⟩ := set_C hc (v := d) (by omega) (K := (objS h d).keys ++ [k]) (I := (objS h d).items) (fun x hx' => (hK x hx').2) (fun x hx' => (hx.2 x hx').2) (by rw [List.length_append,List.length_singleton];omega) (by omega);exact ⟨List.length_set,(st_zero h.length).i,skc_step s1 (by rw [List.length_set];exact hhl) (st_zero _) (Nat.le_trans s2 (by omega))⟩
theorem em_all {o : Ob} (hs : qN o = 0) (hk : o.kind = 5) : o.name = ⟨#[]⟩ ∧ o.cls = 0 ∧ o.refs = [] ∧ o.names = [] ∧ o.keys = [] ∧ o.code = 0 ∧ o.state = 0 := by
 unfold qN at hs;split at hs
 ·rename_i h1;have hl : ∀ i : Nat,i < 7 → (emptyS o).getD i false = true := fun i hi => by
   have h2 := List.all_eq_true.1 h1 i (List.mem_range.2 hi);unfold ltP at h2;rw [hk] at h2;have e : ∀ j,j < 7 → Lib.contains (usedS 5).data.toList (lettersB.extract ((j : Nat) : Int).toNat (((j : Nat) : Int) + 1).toNat).data.toList = false := by decide +kernel
   rw [e i hi] at h2;simpa using h2
  have e0 := of_decide_eq_true (show decide (o.name = ⟨#[]⟩) = true from hl 0 (by decide));have e1 := of_decide_eq_true (show decide (o.cls = 0) = true from hl 1 (by decide));have e2 := of_decide_eq_true (show decide ((o.refs.length : Int) = 0) = true from hl 2 (by decide));have e3 := of_decide_eq_true (show decide ((o.names.length : Int) = 0) = true from hl 3 (by decide));have e4 := of_decide_eq_true (show decide ((o.keys.length : Int) = 0) = true from hl 4 (by decide));have e5 := of_decide_eq_true (show decide (o.code = 0) = true from hl 5 (by decide));have e6 := of_decide_eq_true (show decide (o.state = 0) = true from hl 6 (by decide));exact ⟨e0,e1,List.eq_nil_of_length_eq_zero (by omega),List.eq_nil_of_length_eq_zero (by omega),List.eq_nil_of_length_eq_zero (by omega),e5,e6⟩
 ·cases hs
theorem smI_nil {b : Bool} {l : List Nat} (h : zI b l = true) : b = false ∧ l = [] := by
 unfold zI at h;rw [smI_iff] at h;exact h
theorem ip_eq {v : Vl} (hk : v.k = 2) (hv : vokS v = true) : v = ipV (v.nn,v.nl) := by
 unfold vokS at hv;rw [if_neg (by omega),if_neg (by omega),if_pos hk] at hv;simp only [Bool.and_eq_true,decide_eq_true_eq] at hv;obtain ⟨⟨⟨_,h2⟩,h3⟩,h4⟩ := hv;obtain ⟨h5,h6⟩ := smI_nil h2;have h3' : v.s = ByteArray.empty := of_decide_eq_true h3;obtain ⟨k,nn,nl,dn,dl,s,r⟩ := v;simp only at hk h3' h4 h5 h6;subst hk h3' h4 h5 h6;rfl
theorem rg_eq {h : List Ob} {o : Ob} {i : Nat} (u : Uho h o i) (hk : o.kind = 5) : ∃ p q r,o = rgO p q r := by
 obtain ⟨e1,e2,e3,e4,e5,e6,e7⟩ := em_all u.shape hk;have hl : o.items.length = 3 := by
  have := (sh_of u.shape).1;rw [cnt5 hk] at this;omega
 have hor := (sh_of u.shape).2.2.2.2 (by omega);have hlk := u.links;unfold qF at hlk;rw [if_pos hk] at hlk;unfold rngS at hlk;simp only [Bool.and_eq_true,List.all_eq_true] at hlk;have hall : ∀ v ∈ o.items,v = ipV (v.nn,v.nl) := fun v hv => by
  have h2 := hlk.1 v hv;unfold rngP at h2;simp only [Bool.and_eq_true,decide_eq_true_eq] at h2;have h3 := (vs_of u.vals).ok v (List.mem_append.2 (.inr hv));unfold fixV at h3;rw [if_neg (by omega)] at h3;exact ip_eq h2.1 h3
 obtain ⟨k,nm,c,rf,od,ns,it,ks,cd,st⟩ := o;simp only at hk e1 e2 e3 e4 e5 e6 e7 hl hor hall
 match it,hl,hall with
 | [a,b,d],_,hall =>
  refine ⟨(a.nn,a.nl),(b.nn,b.nl),(d.nn,d.nl),?_⟩;rw [hall a (by simp),hall b (by simp),hall d (by simp)];subst hk e1 e2 e3 e4 e5 e6 e7 hor;rfl
theorem sn265 {P : Program} {K : DS → Prop} {p : Prop} {r : Out} (hr : r.sat P K) (hp : p := by first | exact ⟨by decide,by decide⟩ | first | exact trivial | omega | exact ini (by omega) (by omega) | (intro hh;simp at hh;exact ini (by omega) (by omega)) | (intro hh;simp at hh ⊢;omega) | (simp at *;omega) | (simp_all;done)) : (Out.need p r).sat P K := ⟨hp,hr⟩
set_option maxHeartbeats 4000000 in
theorem Law26_ok (h : List Ob) (v k w : Vl) (hh : HpIn h) (hiv : VlIn v) (hik : VlIn k) (hiw : VlIn w) : Fn Tryz.prog 6 [hpD md h,.agg (vlD v),.agg (vlD k),.agg (vlD w)] (.v (.bool true)) := by
 have hhl := hh.len;refine yJ tabT Tryz.func6 rfl rfl rfl rfl rfl rfl ?_;intro w0 s0 mx;refine ev_R tabT [] 100 ?_;refine zB ?_;refine zB (zE tabT [] 200 rfl ?_);refine zH ?_;refine zT _ ((Usable_ok h [v,k,w] hh (fun u hu => by simp only [List.mem_cons,List.not_mem_nil,or_false] at hu;rcases hu with rfl | rfl | rfl <;> assumption) (by show 3 ≤ 2000000;decide)).args ⟨SubP.refl _,SubP.slrSl rfl,trivial⟩) rfl ?_
 refine zH ?_;refine zC (zA ?_);refine zR rfl (fun c1 => ?_) (fun c1 => ?_)
 ·
  refine ev_R tabT [] 300 ?_;refine zM (zK ?_);exact FinV.ret rfl (SubP.refl _)
 ·have hu : usableS h [v,k,w] = true := by simpa using c1
  have hq : (yZ h).1 = 0 ∧ hasS h v = true ∧ hasS h k = true ∧ hasS h w = true := by
   simp only [usableS,Bool.and_eq_true,decide_eq_true_eq,List.all_cons,List.all_nil,Bool.and_true] at hu;exact hu
  have g : Uh h := uh_of hq.1;have hd := has_obj hq.2.1;have hvk := gv_vd hq.2.2.1;have gk := has_gv hik hq.2.2.1;have gw := has_gv hiw hq.2.2.2;refine zL (zA ?_);refine zB (zV tabT [1025,1027] [[],[0],[],[0,1,2],[],[],[0,1,2,3,4,5],[0,1,2,3,4,5,6]] 400 mixT (by kernel_rfl) rfl ?_);refine zH ?_;refine yK _ _ (Copy_G h hh) rfl ?_;refine zH ?_;refine yK _ _ (Copy_G h hh) rfl ?_;refine zH ?_;refine zC (zA ?_);refine zB ?_;refine yF [4,5,6,7,9,10] [0,1,2,3,204,205] 410 [] [(201,.mrow 37 10 (.map h obD ob0)),(203,.mrow 37 10 (.map h obD ob0)),(204,.box 24 [.mo 201 h.length]),(205,.box 24 [.mo 203 h.length])] ?_;refine ⟨⟨le_t,⟨SubO.mp rfl,SubO.mp rfl,⟨rfl,SubL.same rfl⟩,⟨rfl,SubL.same rfl⟩,le_o⟩,rfl,rfl⟩,?_⟩;refine zB (zE tabT [] 500 rfl ?_);refine zH ?_;refine zT _ (qT h v) rfl ?_;refine zH ?_;refine zC (zA ?_);refine ev_R tabT [] 600 ?_;refine zO ?_;refine ev_R tabT [] 700 ?_;refine yD (fun c6 => ?_) (fun c6 => ?_)
  ·
   have he := ef_put g hh hq.1 c6 hvk gk gw;have cE := opPut_G h v k w hh g hd c6 hvk;have cD := PutD_G h v k w hh g hd c6 hvk;obtain ⟨H,hH⟩ : ∃ H,H = putH h v k w := ⟨_,rfl⟩;obtain ⟨R,hR⟩ : ∃ R,R = putR h v k w := ⟨_,rfl⟩;rw [← hH,← hR] at cE cD he;clear hH hR;refine zB (zV tabT [1038,1042] [[],[],[],[0,1,2],[],[],[],[0,1,2,3,4,5,6],[],[],[0,1,2,3,4,5,6,7,8,9],[0,1,2,3,4,5,6,7,8,9,10]] 800 mixT (by kernel_rfl) rfl ?_);refine zH ?_;refine yK _ _ (cE) (chk_hp _ _) ?_;refine zH ?_;refine yK _ _ (cD) (chk_hp _ _) ?_;refine zH ?_;refine zC (zA ?_);refine yF [4,9,10,12,13] [0] 810 [] [(201,.mrow 37 10 (.map H obD ob0)),(203,.mrow 37 10 (.map H obD ob0)),(204,.box 24 [.mo 201 H.length]),(205,.box 24 [.mo 203 H.length]),(708,.box 47 (stD R)),(709,.box 47 (stD R))] ?_;refine ⟨⟨le_t,⟨SubO.mp rfl,SubO.mp rfl,⟨rfl,Sub.mo rfl,rfl,trivial⟩,⟨rfl,Sub.mo rfl,rfl,trivial⟩,⟨rfl,SubL.same rfl⟩,⟨rfl,SubL.same rfl⟩,le_o⟩,rfl,rfl⟩,?_⟩;refine ev_freeze 201 rfl (by repeat (first | exact trivial | exact rfl | exact (fun _ => rfl) | exact (fun h => absurd h (by decide)) | refine ⟨?_,?_⟩)) (by repeat (first | exact trivial | exact rfl | exact (fun _ => rfl) | exact (fun h => absurd h (by decide)) | refine ⟨?_,?_⟩)) ?_;refine ev_freeze 203 rfl (by repeat (first | exact trivial | exact rfl | exact (fun _ => rfl) | exact (fun h => absurd h (by decide)) | refine ⟨?_,?_⟩)) (by repeat (first | exact trivial | exact rfl | exact (fun _ => rfl) | exact (fun h => absurd h (by decide)) | refine ⟨?_,?_⟩)) ?_;refine yF [4,9,10,12,13] [0] 820 [] [(204,.box 24 [.sl false 10 H obD ob0]),(205,.box 24 [.sl false 10 H obD ob0]),(708,.box 47 (stD R)),(709,.box 47 (stD R))] ?_;refine ⟨⟨le_t,⟨⟨rfl,Sub.ownSl rfl,rfl,trivial⟩,⟨rfl,Sub.ownSl rfl,rfl,trivial⟩,⟨rfl,SubL.same rfl⟩,⟨rfl,SubL.same rfl⟩,le_o⟩,rfl,rfl⟩,?_⟩;refine zB (zE tabT [] 900 rfl ?_);refine zH ?_;refine zT _ (SameStepEffect_ok h H R H R hhl he.st he.st he.sk he.sk) rfl ?_;refine zH ?_;refine zC (zA (zM (zN (zK ?_))));exact FinV.ret rfl (SubP.bool (sameE_self (by rw [he.len];exact Nat.le_refl _)))
  ·
   refine ev_R tabT [] 1000 ?_;refine yD (fun c9 => ?_) (fun c9 => ?_)
   ·
    have he := ef_inc g hh hq.1 c9 hvk gk;have cE := opInclude_G h v k hh g hd c9 hvk;have cD := IncludeD_G h v k hh g hd c9 hvk;obtain ⟨H,hH⟩ : ∃ H,H = incH h v k := ⟨_,rfl⟩;obtain ⟨R,hR⟩ : ∃ R,R = incR h v k := ⟨_,rfl⟩;rw [← hH,← hR] at cE cD he;clear hH hR;refine zB (zV tabT [1053,1056] [[],[],[0,1],[],[],[0,1,2,3,4],[],[],[0,1,2,3,4,5,6,7],[0,1,2,3,4,5,6,7,8]] 1100 mixT (by kernel_rfl) rfl ?_);refine zH ?_;refine yK _ _ (cE) (chk_hp _ _) ?_;refine zH ?_;refine yK _ _ (cD) (chk_hp _ _) ?_;refine zH ?_;refine zC (zA ?_);refine yF [4,9,10,14,15] [0] 1110 [] [(201,.mrow 37 10 (.map H obD ob0)),(203,.mrow 37 10 (.map H obD ob0)),(204,.box 24 [.mo 201 H.length]),(205,.box 24 [.mo 203 H.length]),(1006,.box 47 (stD R)),(1007,.box 47 (stD R))] ?_;refine ⟨⟨le_t,⟨SubO.mp rfl,SubO.mp rfl,⟨rfl,Sub.mo rfl,rfl,trivial⟩,⟨rfl,Sub.mo rfl,rfl,trivial⟩,⟨rfl,SubL.same rfl⟩,⟨rfl,SubL.same rfl⟩,le_o⟩,rfl,rfl⟩,?_⟩;refine ev_freeze 201 rfl (by repeat (first | exact trivial | exact rfl | exact (fun _ => rfl) | exact (fun h => absurd h (by decide)) | refine ⟨?_,?_⟩)) (by repeat (first | exact trivial | exact rfl | exact (fun _ => rfl) | exact (fun h => absurd h (by decide)) | refine ⟨?_,?_⟩)) ?_;refine ev_freeze 203 rfl (by repeat (first | exact trivial | exact rfl | exact (fun _ => rfl) | exact (fun h => absurd h (by decide)) | refine ⟨?_,?_⟩)) (by repeat (first | exact trivial | exact rfl | exact (fun _ => rfl) | exact (fun h => absurd h (by decide)) | refine ⟨?_,?_⟩)) ?_;refine yF [4,9,10,14,15] [0] 1120 [] [(204,.box 24 [.sl false 10 H obD ob0]),(205,.box 24 [.sl false 10 H obD ob0]),(1006,.box 47 (stD R)),(1007,.box 47 (stD R))] ?_;refine ⟨⟨le_t,⟨⟨rfl,Sub.ownSl rfl,rfl,trivial⟩,⟨rfl,Sub.ownSl rfl,rfl,trivial⟩,⟨rfl,SubL.same rfl⟩,⟨rfl,SubL.same rfl⟩,le_o⟩,rfl,rfl⟩,?_⟩;refine zB (zE tabT [] 1200 rfl ?_);refine zH ?_;refine zT _ (SameStepEffect_ok h H R H R hhl he.st he.st he.sk he.sk) rfl ?_;refine zH ?_;refine zC (zA (zM (zN (zK ?_))));exact FinV.ret rfl (SubP.bool (sameE_self (by rw [he.len];exact Nat.le_refl _)))
   ·
    refine ev_R tabT [] 1300 ?_;refine yD (fun c12 => ?_) (fun c12 => ?_)
    ·
     obtain ⟨h6,ho,eo⟩ := objS_of (h := h) (v := v) (by omega);have hin := yM ho;have hk2 : (obAt h v.r).kind = 5 := by rw [← eo];exact c12
     have h49 : ¬ v.r.toNat < 49 := fun hl => by
      rw [show obAt h v.r = bgO v.r.toNat from g.lo_at hl] at hk2;exact absurd hk2 (by show ¬ (9 : Int) = 5;decide)
     have u := g.hi_at (i := v.r.toNat) (by omega) hin.2;rw [← obAt_nat hin,← eo] at u;obtain ⟨p,q,r,hrg⟩ : ∃ p q r,objS h v = rgO p q r := rg_eq u c12;have hit : (objS h v).items = [ipV p,ipV q,ipV r] := by rw [hrg];rfl
     have hil : (objS h v).items.length = 3 := by rw [hit];rfl
     refine yF [11] [0] 1310 [] [(413,.box 37 (obD (rgO p q r)))] ?_;refine ⟨⟨le_t,⟨by rw [hrg];exact ⟨rfl,SubL.same rfl⟩,le_o⟩,rfl,rfl⟩,?_⟩;refine zB (zV tabT [] [[],[0],[0,1],[0,1,2],[0,1,2,3],[],[5],[5,6],[5,6,7],[5,6,7,8],[],[10],[10,11],[10,11,12],[10,11,12,13],[0,1,2,3,4,5,6,7,8,9,10,11,12,13,14],[0,1,2,3,4,5,6,7,8,9,10,11,12,13,14,15],[],[0,1,2,3,4,5,6,7,8,9,10,11,12,13,14,15,16,17]] 1400 mixT (by kernel_rfl) rfl ?_);repeat (first | refine zF ?_ | refine zG ?_ | refine sn265 ?_)
     refine zT _ (opRange_ok p q r) rfl ?_;repeat (first | refine zF ?_ | refine zG ?_ | refine sn265 ?_)
     refine zC (zA ?_);refine zB (zE tabT [] 1500 rfl ?_);refine zH ?_;refine zT _ (SameObject_ok _ _) rfl ?_;refine zH ?_;refine zC (zA (zM (zN (zK ?_))));exact FinV.ret rfl (SubP.bool (decide_eq_true rfl))
    ·
     refine zL (zJ (zA ?_));refine ev_R tabT [] 1600 ?_;refine zM ?_;exact FinV.ret rfl (SubP.refl _)
open Go.ChangeShapes Go.WideShapes Go.ChangeAt Go.RowKit Go.Deep
theorem bulk_mem {H : Type} {d : DataW H} {l : List (DataW H)} (h : d ∈ l) : Rows.uptoBulk d ≤ Rows.uptoBulkAll l := by
 induction l with
 | nil => cases h
 | cons x r ih =>
  simp only [Rows.uptoBulkAll]
  cases List.mem_cons.1 h with
  | inl e => subst e;omega
  | inr e => have := ih e;omega
theorem bulk_one {H : Type} (d : DataW H) : 1 ≤ Rows.uptoBulk d := by
 cases d with
 | lit l => cases l <;> simp [Rows.uptoBulk]
 | nil => simp [Rows.uptoBulk]
 | ptr d => simp [Rows.uptoBulk]
 | slice elems spare => simp [Rows.uptoBulk]
 | agg parts => simp [Rows.uptoBulk]
 | iface t d => simp [Rows.uptoBulk]
 | map entries => simp [Rows.uptoBulk]
 | held h => simp [Rows.uptoBulk]
theorem bulk_length {H : Type} (l : List (DataW H)) : l.length ≤ Rows.uptoBulkAll l := by
 induction l with
 | nil => simp [Rows.uptoBulkAll]
 | cons x r ih => have := bulk_one x;simp only [Rows.uptoBulkAll,List.length_cons];omega
theorem yQ {H : Type} {l : List (DataW H × List MemPlace)} {i : Nat} {y : DataW H × List MemPlace} (h : l[i]? = some y) {n : Nat} (hn : Rows.uptoBulk (DataW.agg (l.map (·.1))) ≤ n) : Rows.uptoBulk y.1 ≤ n := by
 have h1 : y.1 ∈ l.map (·.1) := List.mem_map.2 ⟨y,List.mem_of_getElem? h,rfl⟩;have h2 := bulk_mem h1;simp only [Rows.uptoBulk] at hn;omega
def sW (W : World) : Sb := ⟨fun b _ => b < W.heap.size,fun b _ => b < W.heap.size,fun _ _ h => h⟩
def I64 (x : Int) : Prop := -9223372036854775808 ≤ x ∧ x ≤ 9223372036854775807
theorem i64_wf {x : Int} (h : (Lit.int .i64 x).wf = true) : I64 x := by
 simp [Lit.wf] at h;have h1 : IntKind.i64.min = -9223372036854775808 := by decide
 have h2 : IntKind.i64.max = 9223372036854775807 := by decide
 unfold I64;omega
theorem u32_wf {x : Int} (h : (Lit.int .u32 x).wf = true) : 0 ≤ x ∧ x < 4294967296 := by
 simp [Lit.wf] at h;have h1 : IntKind.u32.min = 0 := by decide
 have h2 : IntKind.u32.max = 4294967295 := by decide
 omega
def Opn {H : Type} (enc : TypeId × Value → H) (P : Program) (W : World) (t : TypeId) {α : Type} (f : α → List D) (Q : α → Nat → Prop) : Prop :=
 ∀ (fuel : Nat) (cs : List Value) (d : DataW H) (ps : List MemPlace),cs.length = P.cellsOf t → DataW.trod enc P W 0 (fun _ => true) true fuel t cs = some (d,ps) →
  ∃ x,AllV W (sW W) (D.pvs (f x)) cs ∧ (∀ c ∈ cs,c.oneCell' = true) ∧ ∀ n,Rows.uptoBulk d ≤ n → Q x n
section
variable {H : Type} {enc : TypeId × Value → H} {P : Program} {W : World}
theorem one_mem {c : Value} (h : c.oneCell' = true) : ∀ x ∈ [c],x.oneCell' = true := fun x hx => by rw [List.mem_singleton] at hx;rw [hx];exact h
theorem Opn.int {t : TypeId} (ht : P.underlying t = some (.int .i64)) : Opn enc P W t iD (fun x _ => I64 x) := by
 intro fuel cs d ps _ h;obtain ⟨k,rfl,_,wf⟩ := DataW.trod_int ht h;exact ⟨k,⟨rfl,trivial⟩,one_mem rfl,fun _ _ => i64_wf wf⟩
theorem Opn.u32 {t : TypeId} (ht : P.underlying t = some (.int .u32)) : Opn enc P W t uD (fun x _ => x < 4294967296) := by
 intro fuel cs d ps _ h;obtain ⟨k,rfl,_,wf⟩ := DataW.trod_int ht h;have h1 := u32_wf wf;refine ⟨k.toNat,⟨?_,trivial⟩,one_mem rfl,fun _ _ => by omega⟩;show Value.int .u32 k = .int .u32 (k.toNat : Nat);rw [Int.toNat_of_nonneg h1.1]
theorem Opn.bool {t : TypeId} (ht : P.underlying t = some .bool) : Opn enc P W t (fun b : Bool => [.v (.bool b)]) (fun _ _ => True) := by
 intro fuel cs d ps _ h;obtain ⟨k,rfl,_⟩ := DataW.trod_bool ht h;exact ⟨k,⟨rfl,trivial⟩,one_mem rfl,fun _ _ => trivial⟩
theorem Opn.str {t : TypeId} (ht : P.underlying t = some .string) : Opn enc P W t sD (fun s n => s.size ≤ n) := by
 intro fuel cs d ps _ h;obtain ⟨k,rfl,hx,_⟩ := DataW.trod_string ht h;refine ⟨k,⟨rfl,trivial⟩,one_mem rfl,fun n hn => ?_⟩;simp only [Prod.mk.injEq] at hx;rw [hx.1] at hn;simp only [Rows.uptoBulk] at hn;have e : k.data.toList.length = k.size := by rw [Array.length_toList];rfl
 omega
theorem Opn.sl {α : Type} {f : α → List D} {Q : α → Nat → Prop} {t e : TypeId} {sz : Nat} (e0 : α) (ht : P.underlying t = some (.slice e)) (hc : P.cellsOf e = sz) (hz : 0 < sz) (he : Opn enc P W e f Q) :
  Opn enc P W t (fun l => [.sl false sz l f e0]) (fun l n => l.length ≤ n ∧ ∀ x ∈ l,Q x n) := by
 intro fuel cs d ps _ h;rcases open_slice ht h with ⟨rfl,hx⟩ | ⟨a,len,cap,m,n,D',Pl,rfl,_,hl,hm,hmm,hx,hel⟩
 ·exact ⟨[],⟨PV.sl_nil,trivial⟩,one_mem rfl,fun _ _ => ⟨Nat.zero_le _,fun x hx => by cases hx⟩⟩
 ·simp only [if_true] at hmm;subst hmm;have hq : ∀ i,i < len → ∃ x : α,∃ cs',W.cells? 0 (a.add (i * sz)) sz = some cs' ∧ AllV W (sW W) (D.pvs (f x)) cs' ∧ (∀ c ∈ cs',c.oneCell' = true) ∧ ∀ n,Rows.uptoBulk (D' i) ≤ n → Q x n := fun i hi => by
   obtain ⟨cs',h1,h2⟩ := hel i (by omega);rw [hc] at h1;obtain ⟨_,hlen,_⟩ := World.cells?_some h1;obtain ⟨x,hx1,hx2,hx3⟩ := he n cs' (D' i) (Pl i) (by omega) h2;exact ⟨x,cs',h1,hx1,hx2,hx3⟩
  obtain ⟨g,hg⟩ : ∃ g : Nat → α,∀ i,i < len → ∃ cs',W.cells? 0 (a.add (i * sz)) sz = some cs' ∧ AllV W (sW W) (D.pvs (f (g i))) cs' ∧ (∀ c ∈ cs',c.oneCell' = true) ∧ ∀ n,Rows.uptoBulk (D' i) ≤ n → Q (g i) n :=
   ⟨fun i => if h : i < len then Classical.choose (hq i h) else e0,fun i hi => by simp only [dif_pos hi];exact Classical.choose_spec (hq i hi)⟩
  have hrl : (((List.range len).map g).map fun a => D.pvs (f a)).length = len := by simp
  refine ⟨(List.range len).map g,⟨⟨some a,m,?_,?_,?_,?_,?_⟩,trivial⟩,one_mem rfl,fun n hn => ?_⟩
  ·show Value.slice (some a) len m = Value.slice (some a) (((List.range len).map g).map fun a => D.pvs (f a)).length m;rw [hrl]
  ·show (((List.range len).map g).map fun a => D.pvs (f a)).length ≤ m;rw [hrl];exact hl
  ·have : maxLen = 9223372036854775807 := by decide
   omega
  ·intro row hrow;have hrow : row ∈ ((List.range len).map g).map fun a => D.pvs (f a) := hrow;rw [List.map_map] at hrow;obtain ⟨i,hi,rfl⟩ := List.mem_map.1 hrow;obtain ⟨cs',h1,h2,-⟩ := hg i (List.mem_range.1 hi);have h3 := h2.length;obtain ⟨_,h4,_⟩ := World.cells?_some h1;show (D.pvs (f (g i))).length = sz;omega
  ·intro i row hrow;have hrow : (((List.range len).map g).map fun a => D.pvs (f a))[i]? = some row := hrow;rw [List.map_map,List.getElem?_map] at hrow;obtain ⟨j,hj,rfl⟩ := Option.map_eq_some_iff.1 hrow;have hi : i < len := by have := (List.getElem?_eq_some_iff.1 hj).1;simpa using this
   rw [List.getElem?_range hi] at hj
   cases hj;obtain ⟨cs',h1,h2,h3,-⟩ := hg i hi;obtain ⟨_,h4,h5⟩ := World.cells?_some h1;obtain ⟨b,off,spot⟩ := a
   cases spot with
   | some sp =>
    obtain ⟨cs0,k1,-⟩ := hg 0 (by omega);obtain ⟨_,k4,k5⟩ := World.cells?_some k1;have h6 := k5 0 hz;rw [List.getElem?_eq_getElem (by omega)] at h6;have := World.cell?_spot h6;simp [Addr.add] at this
   | none =>
    refine ⟨b,off,rfl,fun j d hd => ?_⟩;obtain ⟨v,hv,hp⟩ := h2.get hd;have hj : j < cs'.length := (List.getElem?_eq_some_iff.1 hv).1;have h6 := h5 j (by omega);rw [hv] at h6;have h7 : W.cell? ⟨b,off + i * sz + j,none⟩ = some v := by rw [add_plain,add_plain] at h6;exact h6
    exact ⟨v,h7,(World.block_lt_of_cell? _ _ h7 : b < W.heap.size),hp,h3 v (List.mem_of_getElem? hv)⟩
  ·simp only [Prod.mk.injEq] at hx;rw [hx.1] at hn;simp only [Rows.uptoBulk] at hn;have h1 := bulk_length ((List.range len).map D');simp only [List.length_map,List.length_range] at h1;refine ⟨by simp;omega,fun x hx => ?_⟩;obtain ⟨i,hi,rfl⟩ := List.mem_map.1 hx;obtain ⟨cs',-,-,-,h4⟩ := hg i (List.mem_range.1 hi);exact h4 n (by have := bulk_mem (d := D' i) (l := (List.range len).map D') (List.mem_map.2 ⟨i,hi,rfl⟩);omega)
end
theorem list5 {α : Type} {l : List α} (h : l.length = 5) : ∃ c0 c1 c2 c3 c4,l = [c0,c1,c2,c3,c4] := by
 match l,h with
 | [c0,c1,c2,c3,c4],_ => exact ⟨c0,c1,c2,c3,c4,rfl⟩
theorem list7 {α : Type} {l : List α} (h : l.length = 7) : ∃ c0 c1 c2 c3 c4 c5 c6,l = [c0,c1,c2,c3,c4,c5,c6] := by
 match l,h with
 | [c0,c1,c2,c3,c4,c5,c6],_ => exact ⟨c0,c1,c2,c3,c4,c5,c6,rfl⟩
theorem list10 {α : Type} {l : List α} (h : l.length = 10) : ∃ c0 c1 c2 c3 c4 c5 c6 c7 c8 c9,l = [c0,c1,c2,c3,c4,c5,c6,c7,c8,c9] := by
 match l,h with
 | [c0,c1,c2,c3,c4,c5,c6,c7,c8,c9],_ => exact ⟨c0,c1,c2,c3,c4,c5,c6,c7,c8,c9,rfl⟩
theorem qI {W : World} {s : Sb} {d : D} {c : Value} (h : AllV W s (D.pvs [d]) [c]) : d.pv.p W s c := h.1
section
variable {H : Type} {enc : TypeId × Value → H} {W : World}
def intD (p : Bool × List Nat) : List D := [.v (.bool p.1),usD p.2]
set_option maxRecDepth 100000 in
theorem Opn.bigI : Opn enc Tryz.prog W 30 intD (fun p n => p.2.length ≤ n ∧ ∀ x ∈ p.2,x < 4294967296) := by
 intro fuel cs d ps hl h;have e4 : Tryz.prog.cellsOf 4 = 1 := by kernel_rfl
 have e22 : Tryz.prog.cellsOf 28 = 1 := by kernel_rfl
 have eI : Tryz.prog.cellsOf 30 = 2 := by kernel_rfl
 rw [eI] at hl
 match cs,hl with
 | [c0,c1],_ =>
  obtain ⟨xs,n1,_,hx,_,hlen,hg⟩ := DataW.trod_struct Tryz.underlying30 h
  match xs,hlen with
  | [y0,y1],_ =>
   have g0 : DataW.trod enc Tryz.prog W 0 (fun _ => true) true n1 4 (([c0,c1].drop 0).take (Tryz.prog.cellsOf 4)) = some y0 := hg 0 _ rfl;rw [e4] at g0
   replace g0 : DataW.trod enc Tryz.prog W 0 (fun _ => true) true n1 4 [c0] = some y0 := g0
   have g1 : DataW.trod enc Tryz.prog W 0 (fun _ => true) true n1 28 (([c0,c1].drop 1).take (Tryz.prog.cellsOf 28)) = some y1 := hg 1 _ rfl;rw [e22] at g1
   replace g1 : DataW.trod enc Tryz.prog W 0 (fun _ => true) true n1 28 [c1] = some y1 := g1
   obtain ⟨x0,a0,o0,q0⟩ := Opn.bool Tryz.underlying4 _ _ y0.1 y0.2 (by rw [e4];rfl) g0;obtain ⟨x1,a1,o1,q1⟩ := Opn.sl 0 Tryz.underlying28 (sz := 1) (by kernel_rfl) (by decide) (Opn.u32 Tryz.underlying133) _ _ y1.1 y1.2 (by rw [e22];rfl) g1;simp only [Prod.mk.injEq] at hx;refine ⟨(x0,x1),⟨qI a0,qI a1,trivial⟩,fun c hc => ?_,fun n hn => ?_⟩
   ·simp only [List.mem_cons,List.not_mem_nil,or_false] at hc;rcases hc with rfl | rfl
    ·exact o0 _ (by simp)
    ·exact o1 _ (by simp)
   ·rw [hx.1] at hn;exact q1 n (yQ (i := 1) (y := y1) rfl hn)
set_option maxRecDepth 100000 in
theorem Opn.val : Opn enc Tryz.prog W 32 vlD (fun v n => n ≤ 1048576 → VlIn v) := by
 intro fuel cs d ps hl h;have e3 : Tryz.prog.cellsOf 3 = 1 := by kernel_rfl
 have e9 : Tryz.prog.cellsOf 9 = 1 := by kernel_rfl
 have e24 : Tryz.prog.cellsOf 30 = 2 := by kernel_rfl
 have eV : Tryz.prog.cellsOf 32 = 7 := by kernel_rfl
 rw [eV] at hl;obtain ⟨c0,c1,c2,c3,c4,c5,c6,rfl⟩ := list7 hl;obtain ⟨xs,n1,_,hx,_,hlen,hg⟩ := DataW.trod_struct Tryz.underlying32 h;obtain ⟨y0,y1,y2,y3,y4,rfl⟩ := list5 hlen;have g0 : DataW.trod enc Tryz.prog W 0 (fun _ => true) true n1 3 (([c0,c1,c2,c3,c4,c5,c6].drop 0).take (Tryz.prog.cellsOf 3)) = some y0 := hg 0 _ rfl;rw [e3] at g0
 replace g0 : DataW.trod enc Tryz.prog W 0 (fun _ => true) true n1 3 [c0] = some y0 := g0
 have g1 : DataW.trod enc Tryz.prog W 0 (fun _ => true) true n1 30 (([c0,c1,c2,c3,c4,c5,c6].drop 1).take (Tryz.prog.cellsOf 30)) = some y1 := hg 1 _ rfl;rw [e24] at g1
 replace g1 : DataW.trod enc Tryz.prog W 0 (fun _ => true) true n1 30 [c1,c2] = some y1 := g1
 have g2 : DataW.trod enc Tryz.prog W 0 (fun _ => true) true n1 30 (([c0,c1,c2,c3,c4,c5,c6].drop 3).take (Tryz.prog.cellsOf 30)) = some y2 := hg 2 _ rfl;rw [e24] at g2
 replace g2 : DataW.trod enc Tryz.prog W 0 (fun _ => true) true n1 30 [c3,c4] = some y2 := g2
 have g3 : DataW.trod enc Tryz.prog W 0 (fun _ => true) true n1 9 (([c0,c1,c2,c3,c4,c5,c6].drop 5).take (Tryz.prog.cellsOf 9)) = some y3 := hg 3 _ rfl;rw [e9] at g3
 replace g3 : DataW.trod enc Tryz.prog W 0 (fun _ => true) true n1 9 [c5] = some y3 := g3
 have g4 : DataW.trod enc Tryz.prog W 0 (fun _ => true) true n1 3 (([c0,c1,c2,c3,c4,c5,c6].drop 6).take (Tryz.prog.cellsOf 3)) = some y4 := hg 4 _ rfl;rw [e3] at g4
 replace g4 : DataW.trod enc Tryz.prog W 0 (fun _ => true) true n1 3 [c6] = some y4 := g4
 obtain ⟨x0,a0,o0,q0⟩ := Opn.int Tryz.underlying3 _ _ y0.1 y0.2 (by rw [e3];rfl) g0;obtain ⟨x1,a1,o1,q1⟩ := Opn.bigI _ _ y1.1 y1.2 (by rw [e24];rfl) g1;obtain ⟨x2,a2,o2,q2⟩ := Opn.bigI _ _ y2.1 y2.2 (by rw [e24];rfl) g2;obtain ⟨x3,a3,o3,q3⟩ := Opn.str Tryz.underlying9 _ _ y3.1 y3.2 (by rw [e9];rfl) g3;obtain ⟨x4,a4,o4,q4⟩ := Opn.int Tryz.underlying3 _ _ y4.1 y4.2 (by rw [e3];rfl) g4;simp only [Prod.mk.injEq] at hx;refine ⟨⟨x0,x1.1,x1.2,x2.1,x2.2,x3,x4⟩,⟨qI a0,a1.1,a1.2.1,a2.1,a2.2.1,qI a3,qI a4,trivial⟩,fun c hc => ?_,fun n hn hn2 => ?_⟩
 ·simp only [List.mem_cons,List.not_mem_nil,or_false] at hc;rcases hc with rfl | rfl | rfl | rfl | rfl | rfl | rfl
  ·exact o0 _ (by simp)
  ·exact o1 _ (by simp)
  ·exact o1 _ (by simp)
  ·exact o2 _ (by simp)
  ·exact o2 _ (by simp)
  ·exact o3 _ (by simp)
  ·exact o4 _ (by simp)
 ·rw [hx.1] at hn;have b0 := q0 n (yQ (i := 0) (y := y0) rfl hn);have b1 := q1 n (yQ (i := 1) (y := y1) rfl hn);have b2 := q2 n (yQ (i := 2) (y := y2) rfl hn);have b3 := q3 n (yQ (i := 3) (y := y3) rfl hn);have b4 := q4 n (yQ (i := 4) (y := y4) rfl hn);exact ⟨b0.1,b0.2,b4.1,b4.2,b1.2,b2.2,by show x1.2.length ≤ _;omega,by show x2.2.length ≤ _;omega,by show x3.size ≤ _;omega⟩
set_option maxRecDepth 100000 in
theorem Opn.obj : Opn enc Tryz.prog W 37 obD (fun o n => n ≤ 1048576 → ObIn o) := by
 intro fuel cs d ps hl h;have e3 : Tryz.prog.cellsOf 3 = 1 := by kernel_rfl
 have e9 : Tryz.prog.cellsOf 9 = 1 := by kernel_rfl
 have eI : Tryz.prog.cellsOf 34 = 1 := by kernel_rfl
 have eS : Tryz.prog.cellsOf 35 = 1 := by kernel_rfl
 have eV : Tryz.prog.cellsOf 25 = 1 := by kernel_rfl
 have eO : Tryz.prog.cellsOf 37 = 10 := by kernel_rfl
 rw [eO] at hl;obtain ⟨c0,c1,c2,c3,c4,c5,c6,c7,c8,c9,rfl⟩ := list10 hl;obtain ⟨xs,n1,_,hx,_,hlen,hg⟩ := DataW.trod_struct Tryz.underlying37 h;obtain ⟨y0,y1,y2,y3,y4,y5,y6,y7,y8,y9,rfl⟩ := list10 hlen;have g0 : DataW.trod enc Tryz.prog W 0 (fun _ => true) true n1 3 (([c0,c1,c2,c3,c4,c5,c6,c7,c8,c9].drop 0).take (Tryz.prog.cellsOf 3)) = some y0 := hg 0 _ rfl;rw [e3] at g0
 replace g0 : DataW.trod enc Tryz.prog W 0 (fun _ => true) true n1 3 [c0] = some y0 := g0
 have g1 : DataW.trod enc Tryz.prog W 0 (fun _ => true) true n1 9 (([c0,c1,c2,c3,c4,c5,c6,c7,c8,c9].drop 1).take (Tryz.prog.cellsOf 9)) = some y1 := hg 1 _ rfl;rw [e9] at g1
 replace g1 : DataW.trod enc Tryz.prog W 0 (fun _ => true) true n1 9 [c1] = some y1 := g1
 have g2 : DataW.trod enc Tryz.prog W 0 (fun _ => true) true n1 3 (([c0,c1,c2,c3,c4,c5,c6,c7,c8,c9].drop 2).take (Tryz.prog.cellsOf 3)) = some y2 := hg 2 _ rfl;rw [e3] at g2
 replace g2 : DataW.trod enc Tryz.prog W 0 (fun _ => true) true n1 3 [c2] = some y2 := g2
 have g3 : DataW.trod enc Tryz.prog W 0 (fun _ => true) true n1 34 (([c0,c1,c2,c3,c4,c5,c6,c7,c8,c9].drop 3).take (Tryz.prog.cellsOf 34)) = some y3 := hg 3 _ rfl;rw [eI] at g3
 replace g3 : DataW.trod enc Tryz.prog W 0 (fun _ => true) true n1 34 [c3] = some y3 := g3
 have g4 : DataW.trod enc Tryz.prog W 0 (fun _ => true) true n1 34 (([c0,c1,c2,c3,c4,c5,c6,c7,c8,c9].drop 4).take (Tryz.prog.cellsOf 34)) = some y4 := hg 4 _ rfl;rw [eI] at g4
 replace g4 : DataW.trod enc Tryz.prog W 0 (fun _ => true) true n1 34 [c4] = some y4 := g4
 have g5 : DataW.trod enc Tryz.prog W 0 (fun _ => true) true n1 35 (([c0,c1,c2,c3,c4,c5,c6,c7,c8,c9].drop 5).take (Tryz.prog.cellsOf 35)) = some y5 := hg 5 _ rfl;rw [eS] at g5
 replace g5 : DataW.trod enc Tryz.prog W 0 (fun _ => true) true n1 35 [c5] = some y5 := g5
 have g6 : DataW.trod enc Tryz.prog W 0 (fun _ => true) true n1 25 (([c0,c1,c2,c3,c4,c5,c6,c7,c8,c9].drop 6).take (Tryz.prog.cellsOf 25)) = some y6 := hg 6 _ rfl;rw [eV] at g6
 replace g6 : DataW.trod enc Tryz.prog W 0 (fun _ => true) true n1 25 [c6] = some y6 := g6
 have g7 : DataW.trod enc Tryz.prog W 0 (fun _ => true) true n1 25 (([c0,c1,c2,c3,c4,c5,c6,c7,c8,c9].drop 7).take (Tryz.prog.cellsOf 25)) = some y7 := hg 7 _ rfl;rw [eV] at g7
 replace g7 : DataW.trod enc Tryz.prog W 0 (fun _ => true) true n1 25 [c7] = some y7 := g7
 have g8 : DataW.trod enc Tryz.prog W 0 (fun _ => true) true n1 3 (([c0,c1,c2,c3,c4,c5,c6,c7,c8,c9].drop 8).take (Tryz.prog.cellsOf 3)) = some y8 := hg 8 _ rfl;rw [e3] at g8
 replace g8 : DataW.trod enc Tryz.prog W 0 (fun _ => true) true n1 3 [c8] = some y8 := g8
 have g9 : DataW.trod enc Tryz.prog W 0 (fun _ => true) true n1 3 (([c0,c1,c2,c3,c4,c5,c6,c7,c8,c9].drop 9).take (Tryz.prog.cellsOf 3)) = some y9 := hg 9 _ rfl;rw [e3] at g9
 replace g9 : DataW.trod enc Tryz.prog W 0 (fun _ => true) true n1 3 [c9] = some y9 := g9
 obtain ⟨x0,a0,o0,q0⟩ := Opn.int Tryz.underlying3 _ _ y0.1 y0.2 (by rw [e3];rfl) g0;obtain ⟨x1,a1,o1,q1⟩ := Opn.str Tryz.underlying9 _ _ y1.1 y1.2 (by rw [e9];rfl) g1;obtain ⟨x2,a2,o2,q2⟩ := Opn.int Tryz.underlying3 _ _ y2.1 y2.2 (by rw [e3];rfl) g2;obtain ⟨x3,a3,o3,q3⟩ := Opn.sl 0 Tryz.underlying34 (sz := 1) (by kernel_rfl) (by decide) (Opn.int Tryz.underlying3) _ _ y3.1 y3.2 (by rw [eI];rfl) g3;obtain ⟨x4,a4,o4,q4⟩ := Opn.sl 0 Tryz.underlying34 (sz := 1) (by kernel_rfl) (by decide) (Opn.int Tryz.underlying3) _ _ y4.1 y4.2 (by rw [eI];rfl) g4;obtain ⟨x5,a5,o5,q5⟩ := Opn.sl ByteArray.empty Tryz.underlying35 (sz := 1) (by kernel_rfl) (by decide) (Opn.str Tryz.underlying9) _ _ y5.1 y5.2 (by rw [eS];rfl) g5;obtain ⟨x6,a6,o6,q6⟩ := Opn.sl vl0 Tryz.underlying25 (sz := 7) (by kernel_rfl) (by decide) Opn.val _ _ y6.1 y6.2 (by rw [eV];rfl) g6;obtain ⟨x7,a7,o7,q7⟩ := Opn.sl vl0 Tryz.underlying25 (sz := 7) (by kernel_rfl) (by decide) Opn.val _ _ y7.1 y7.2 (by rw [eV];rfl) g7;obtain ⟨x8,a8,o8,q8⟩ := Opn.int Tryz.underlying3 _ _ y8.1 y8.2 (by rw [e3];rfl) g8;obtain ⟨x9,a9,o9,q9⟩ := Opn.int Tryz.underlying3 _ _ y9.1 y9.2 (by rw [e3];rfl) g9;simp only [Prod.mk.injEq] at hx;refine ⟨⟨x0,x1,x2,x3,x4,x5,x6,x7,x8,x9⟩,⟨qI a0,qI a1,qI a2,qI a3,qI a4,qI a5,qI a6,qI a7,qI a8,qI a9,trivial⟩,fun c hc => ?_,fun n hn hn2 => ?_⟩
 ·simp only [List.mem_cons,List.not_mem_nil,or_false] at hc;rcases hc with rfl | rfl | rfl | rfl | rfl | rfl | rfl | rfl | rfl | rfl
  ·exact o0 _ (by simp)
  ·exact o1 _ (by simp)
  ·exact o2 _ (by simp)
  ·exact o3 _ (by simp)
  ·exact o4 _ (by simp)
  ·exact o5 _ (by simp)
  ·exact o6 _ (by simp)
  ·exact o7 _ (by simp)
  ·exact o8 _ (by simp)
  ·exact o9 _ (by simp)
 ·rw [hx.1] at hn;have b0 := q0 n (yQ (i := 0) (y := y0) rfl hn);have b1 := q1 n (yQ (i := 1) (y := y1) rfl hn);have b2 := q2 n (yQ (i := 2) (y := y2) rfl hn);have b3 := q3 n (yQ (i := 3) (y := y3) rfl hn);have b4 := q4 n (yQ (i := 4) (y := y4) rfl hn);have b5 := q5 n (yQ (i := 5) (y := y5) rfl hn);have b6 := q6 n (yQ (i := 6) (y := y6) rfl hn);have b7 := q7 n (yQ (i := 7) (y := y7) rfl hn);have b8 := q8 n (yQ (i := 8) (y := y8) rfl hn);have b9 := q9 n (yQ (i := 9) (y := y9) rfl hn)
  exact ⟨b0,b2,b8,b9,by show x1.size ≤ _;omega,by show x3.length ≤ _;omega,by show x4.length ≤ _;omega,by show x5.length ≤ _;omega,by show x6.length ≤ _;omega,by show x7.length ≤ _;omega,
   fun s hs => by have := b5.2 s hs;omega,fun v hv => b6.2 v hv hn2,fun v hv => b7.2 v hv hn2⟩
def hpL (h : List Ob) : List D := [.sl false 10 h obD ob0]
set_option maxRecDepth 100000 in
theorem Opn.heap : Opn enc Tryz.prog W 24 hpL (fun h n => n ≤ 1048576 → HpIn h) := by
 intro fuel cs d ps hl h;have eH : Tryz.prog.cellsOf 24 = 1 := by kernel_rfl
 have eO : Tryz.prog.cellsOf 22 = 1 := by kernel_rfl
 rw [eH] at hl
 match cs,hl with
 | [c0],_ =>
  obtain ⟨xs,n1,_,hx,_,hlen,hg⟩ := DataW.trod_struct Tryz.underlying24 h
  match xs,hlen with
  | [y0],_ =>
   have g0 : DataW.trod enc Tryz.prog W 0 (fun _ => true) true n1 22 (([c0].drop 0).take (Tryz.prog.cellsOf 22)) = some y0 := hg 0 _ rfl;rw [eO] at g0
   replace g0 : DataW.trod enc Tryz.prog W 0 (fun _ => true) true n1 22 [c0] = some y0 := g0
   obtain ⟨x0,a0,o0,q0⟩ := Opn.sl ob0 Tryz.underlying22 (sz := 10) (by kernel_rfl) (by decide) Opn.obj _ _ y0.1 y0.2 (by rw [eO];rfl) g0;simp only [Prod.mk.injEq] at hx;refine ⟨x0,a0,o0,fun n hn hn2 => ?_⟩;rw [hx.1] at hn;have b0 := q0 n (yQ (i := 0) (y := y0) rfl hn);exact ⟨fun o ho => b0.2 o ho hn2,by omega⟩
theorem Opn.agg {P : Program} {α : Type} {f : α → List D} {Q : α → Nat → Prop} {t : TypeId} {fs : Array Field} {base : Nat} (ho : Opn enc P W t f Q) (ht : P.underlying t = some (.struct fs)) {v : Value} {d : DataW H} {ps : List MemPlace}
  (hv : Value.okWide P W .any base t v) (h : DataW.Trod enc P W 0 (fun _ => true) true t v d ps) :
  ∃ x,(D.agg (f x)).pv.p W (sW W) v ∧ ∀ n,Rows.uptoBulk d ≤ n → Q x n := by
 obtain ⟨cs,rfl,hsz⟩ := okWide_struct ht hv;obtain ⟨l⟩ := cs;obtain ⟨fuel,hf⟩ := h;obtain ⟨x,h1,-,h3⟩ := ho fuel l d ps hsz hf;exact ⟨x,⟨l,rfl,h1⟩,h3⟩
end


open Go.ChangeShapes Go.WideShapes Go.ChangeAt Go.RowKit
theorem TrodAll_below {H : Type} {enc : TypeId × Value → H} {P : Program} (hl : laidOutB P = true) {W W' : World} (hb : Below W.heap.size W W') :
  ∀ (ts : List TypeId) (vs : List Value) (ds : List (DataW H)) (ps : List MemPlace),(∀ t ∈ ts,P.readableRec t = true ∧ t < P.types.size) →
   DataW.TrodAll enc P W 0 (fun _ => true) true ts vs ds ps → DataW.TrodAll enc P W' 0 (fun b => decide (b < W.heap.size)) true ts vs ds ps
 | [],[],[],ps,_,h => h
 | t :: ts,v :: vs,d :: ds,ps,hr,h => by
  obtain ⟨p,q,hp,hq,e⟩ := h;have lt : ∀ x ∈ p,x.block < W.heap.size := by obtain ⟨m,hm⟩ := hp;exact DataW.trod_lt m _ _ _ hm
  have ht := hr t (by simp);exact ⟨p,q,Below.trod hl ht.1 ht.2 hp hb lt,TrodAll_below hl hb ts vs ds q (fun x hx => hr x (by simp [hx])) hq,e⟩
 | [],[],_ :: _,_,_,h => by simp [DataW.TrodAll] at h
 | [],_ :: _,_,_,_,h => by simp [DataW.TrodAll] at h
 | _ :: _,[],_,_,_,h => by simp [DataW.TrodAll] at h
 | _ :: _,_ :: _,[],_,_,h => by simp [DataW.TrodAll] at h
open Go.ChangeShapes Go.WideShapes Go.ChangeAt Go.RowKit Go.Shelf
theorem Law_own : ownKnob Tryz.prog.godebug = none := by kernel_rfl
theorem accept_same : (Rows.laid_unicode_utf8_acceptRanges : DataW Unit) = Lib.acceptData := by kernel_rfl
theorem first_same : (Rows.laid_unicode_utf8_first : DataW Unit) = Lib.firstData := by kernel_rfl
theorem space_same : (Rows.laid_strings_asciiSpace : DataW Unit) = Lib.tabData .u8 Lib.asciiSpaceTab := by kernel_rfl
theorem pow_same : (Rows.laid_internal_strconv_uint64pow10 : DataW Unit) = Lib.tabData .u64 Lib.pow10Tab := by kernel_rfl
theorem pow_tab {W : World} (hL : laidMetH Tryz.prog Rows.operatorsPutMatchesSpecUptoRow.laid W) : Lib.TabIs Tryz.prog W "internal/strconv.uint64pow10" .u64 Lib.pow10Tab := by
 have h5 : Lib.VarReads Tryz.prog W "internal/strconv.uint64pow10" Rows.laid_internal_strconv_uint64pow10 := Lib.laidMet.reads hL (.tail _ (.tail _ (.head _)));rw [pow_same] at h5;obtain ⟨g,t,cs,fuel,p,hg,hty,hvar,hd⟩ := h5;obtain rfl := Option.some.inj ((show Tryz.prog.globalNamed "internal/strconv.uint64pow10" = some 5 by kernel_rfl).symm.trans hg);obtain rfl := Option.some.inj ((show (Tryz.prog.globals[5]?).map (·.type) = some 254 by kernel_rfl).symm.trans hty);have := Lib.cells_of_tab Tryz.underlying254 Tryz.underlying152 (by kernel_rfl) (by kernel_rfl) hd;unfold Lib.TabIs;rw [hvar,← this]
theorem Law_z {W : World} (hL : laidMetH Tryz.prog Rows.operatorsPutMatchesSpecUptoRow.laid W) (o : Nat) (ho : 20 ≤ o) : W.cell? ⟨5,o,none⟩ = none ∧ sW W 5 o := by
 have h := pow_tab hL;have hg : Tryz.prog.globalNamed "internal/strconv.uint64pow10" = some 5 := by kernel_rfl
 refine ⟨?_,?_⟩
 ·rw [World.var?_cell hg h o,List.getElem?_toArray];exact List.getElem?_eq_none (by rw [List.length_map,Lib.pow10Tab_length];exact ho)
 ·exact World.block_lt_of_cell? _ _ (h.cell hg 0 (by rw [Lib.pow10Tab_length];decide))
theorem tab_p16 {W : World} (hL : laidMetH Tryz.prog Rows.operatorsPutMatchesSpecUptoRow.laid W) : Lib.TabSlice 6 .u16 Lib.goPrintTabs.p16 W :=
 Lib.tabSlice_of_reads (name := "strconv.isPrint16") (t := 257) (e := 226) (by kernel_rfl) (by kernel_rfl) Tryz.underlying257 Tryz.underlying226 (by kernel_rfl) (by decide +kernel) (by
  have h : Lib.VarReads Tryz.prog W "strconv.isPrint16" Rows.laid_strconv_isPrint16 := Lib.laidMet.reads hL (.tail _ (.tail _ (.tail _ (.tail _ (.tail _ (.tail _ (.tail _ (.tail _ (.tail _ (.head _))))))))))
  rwa [show (Rows.laid_strconv_isPrint16 : DataW Unit) = Lib.sliceData .u16 Lib.goPrintTabs.p16 from Go.Pinned.isPrint16_eq] at h)
theorem tab_n16 {W : World} (hL : laidMetH Tryz.prog Rows.operatorsPutMatchesSpecUptoRow.laid W) : Lib.TabSlice 7 .u16 Lib.goPrintTabs.n16 W :=
 Lib.tabSlice_of_reads (name := "strconv.isNotPrint16") (t := 257) (e := 226) (by kernel_rfl) (by kernel_rfl) Tryz.underlying257 Tryz.underlying226 (by kernel_rfl) (by decide +kernel) (by
  have h : Lib.VarReads Tryz.prog W "strconv.isNotPrint16" Rows.laid_strconv_isNotPrint16 := Lib.laidMet.reads hL (.tail _ (.tail _ (.tail _ (.tail _ (.tail _ (.tail _ (.tail _ (.head _))))))))
  rwa [show (Rows.laid_strconv_isNotPrint16 : DataW Unit) = Lib.sliceData .u16 Lib.goPrintTabs.n16 from Go.Pinned.isNotPrint16_eq] at h)
theorem tab_p32 {W : World} (hL : laidMetH Tryz.prog Rows.operatorsPutMatchesSpecUptoRow.laid W) : Lib.TabSlice 8 .u32 Lib.goPrintTabs.p32 W :=
 Lib.tabSlice_of_reads (name := "strconv.isPrint32") (t := 28) (e := 133) (by kernel_rfl) (by kernel_rfl) Tryz.underlying28 Tryz.underlying133 (by kernel_rfl) (by decide +kernel) (by
  have h : Lib.VarReads Tryz.prog W "strconv.isPrint32" Rows.laid_strconv_isPrint32 := Lib.laidMet.reads hL (.tail _ (.tail _ (.tail _ (.tail _ (.tail _ (.tail _ (.tail _ (.tail _ (.tail _ (.tail _ (.head _)))))))))))
  rwa [show (Rows.laid_strconv_isPrint32 : DataW Unit) = Lib.sliceData .u32 Lib.goPrintTabs.p32 from Go.Pinned.isPrint32_eq] at h)
theorem tab_n32 {W : World} (hL : laidMetH Tryz.prog Rows.operatorsPutMatchesSpecUptoRow.laid W) : Lib.TabSlice 9 .u16 Lib.goPrintTabs.n32 W :=
 Lib.tabSlice_of_reads (name := "strconv.isNotPrint32") (t := 257) (e := 226) (by kernel_rfl) (by kernel_rfl) Tryz.underlying257 Tryz.underlying226 (by kernel_rfl) (by decide +kernel) (by
  have h : Lib.VarReads Tryz.prog W "strconv.isNotPrint32" Rows.laid_strconv_isNotPrint32 := Lib.laidMet.reads hL (.tail _ (.tail _ (.tail _ (.tail _ (.tail _ (.tail _ (.tail _ (.tail _ (.head _)))))))))
  rwa [show (Rows.laid_strconv_isNotPrint32 : DataW Unit) = Lib.sliceData .u16 Lib.goPrintTabs.n32 from Go.Pinned.isNotPrint32_eq] at h)
def litsOf : List (DataW Unit) → List Value
 | [] => []
 | .lit (.int k n) :: l => .int k n :: litsOf l
 | _ :: l => undef :: litsOf l
def arrOf : DataW Unit → Array Value
 | .agg l => (litsOf l).toArray
 | .slice l _ => (litsOf l).toArray
 | _ => #[]
theorem Law_glob {W : World} (hL : laidMetH Tryz.prog Rows.operatorsPutMatchesSpecUptoRow.laid W) (hs : W.ShapedOpen Tryz.prog) : Glb W (sW W) := by
 have h3 : Lib.VarReads Tryz.prog W "unicode/utf8.first" Rows.laid_unicode_utf8_first := Lib.laidMet.reads hL (.tail _ (.tail _ (.tail _ (.tail _ (.tail _ (.tail _ (.tail _ (.tail _ (.tail _ (.tail _ (.tail _ (.head _))))))))))));have h4 : Lib.VarReads Tryz.prog W "unicode/utf8.acceptRanges" Rows.laid_unicode_utf8_acceptRanges := Lib.laidMet.reads hL (.tail _ (.tail _ (.tail _ (.head _))));have h5 : Lib.VarReads Tryz.prog W "strings.asciiSpace" Rows.laid_strings_asciiSpace := Lib.laidMet.reads hL (.tail _ (.tail _ (.tail _ (.tail _ (.tail _ (.head _))))));rw [first_same] at h3;rw [accept_same] at h4;rw [space_same] at h5;have hT : Lib.Utf8Tabs 1 2 W := utf8Tabs_of_readsT (U8Types.of196 Tryz.laysValid) ⟨by kernel_rfl,by kernel_rfl,by kernel_rfl,by kernel_rfl,by kernel_rfl,by kernel_rfl,by kernel_rfl⟩ h3 h4;have hS : Lib.TabIs Tryz.prog W "strings.asciiSpace" .u8 Lib.asciiSpaceTab := by
  obtain ⟨g,t,cs,fuel,p,hg,hty,hvar,hd⟩ := h5;obtain rfl := Option.some.inj ((show Tryz.prog.globalNamed "strings.asciiSpace" = some 0 by kernel_rfl).symm.trans hg);obtain rfl := Option.some.inj ((show (Tryz.prog.globals[0]?).map (·.type) = some 179 by kernel_rfl).symm.trans hty);have := Lib.cells_of_tab Tryz.underlying179 Tryz.underlying5 (by kernel_rfl) (by kernel_rfl) hd;unfold Lib.TabIs;rw [hvar,← this]
 have hM := Go.Proofs.cell_of_shapedOpen_int (g := 4) (t := 3) (zero := #[.int .i64 0]) hs (of_decide_eq_true (by kernel_rfl)) (by kernel_rfl) rfl (by kernel_rfl) (by kernel_rfl) Tryz.underlying3;refine ⟨fun b o => W.cell? ⟨b,o,none⟩,⟨hM,fun c hc => hT.1 c hc,fun i hi => hT.2 i hi,fun c hc => ?_,fun i hi => (pow_tab hL).cell (by kernel_rfl) i (by rw [Lib.pow10Tab_length];exact hi),tab_p16 hL,tab_n16 hL,tab_p32 hL,tab_n32 hL⟩,fun b o v hv => ⟨hv,World.block_lt_of_cell? _ _ hv⟩,fun b o h => by cases h with | pow10 o ho => exact Law_z hL _ ho⟩;show W.cell? ⟨0,c,none⟩ = _;rw [hS.cell (by kernel_rfl) c (by rw [Lib.asciiSpaceTab_length];exact hc),Lib.asciiSpaceTab_at c hc]
noncomputable def Law_world (os : Os) : World :=
 let N := (World.settled Tryz.prog os).heap.size
 let w0 := World.holding Tryz.prog os ⟨#[.cells (Lib.whiteT.map fun (z : Nat) => Value.int .u16 (z : Int)).toArray 228,.cells #[.slice (some ⟨N,0,none⟩) 7 7,.slice none 0 0,.int .i64 2] 225,.cells (arrOf Rows.laid_strconv_isGraphic) 226,.cells (Lib.intCellsOf .u16 Lib.goPrintTabs.n16) 226,.cells (Lib.intCellsOf .u16 Lib.goPrintTabs.n32) 226,.cells (Lib.intCellsOf .u16 Lib.goPrintTabs.p16) 226,.cells (Lib.intCellsOf .u32 Lib.goPrintTabs.p32) 133],#[],[]⟩
 let put (h : Array Obj) (g : Nat) (cs : Array Value) : Array Obj := h.modify g fun
  | .cells _ t frozen => .cells cs t frozen
  | o => o
 let h1 := put w0.heap 0 (Lib.asciiSpaceTab.map fun z => Value.int .u8 z).toArray
 let h2 := put h1 1 (Lib.firstTab.map fun z => Value.int .u8 z).toArray
 let h3 := put h2 2 ((List.range 16).flatMap fun i => [Value.int .u8 (Lib.accLo i),Value.int .u8 (Lib.accHi i)]).toArray
 let h4 := put h3 3 #[.pointer (some ⟨N + 1,0,none⟩)]
 let h5 := put h4 11 (arrOf Rows.laid_math_bits_deBruijn32tab)
 let h6 := put h5 12 (arrOf Rows.laid_math_bits_deBruijn64tab)
 let h7 := put h6 5 (arrOf Rows.laid_internal_strconv_uint64pow10)
 let h8 := put h7 10 #[.slice (some ⟨N + 2,0,none⟩) 16 16]
 let h9 := put h8 7 #[.slice (some ⟨N + 3,0,none⟩) Lib.goPrintTabs.n16.length Lib.goPrintTabs.n16.length]
 let h10 := put h9 9 #[.slice (some ⟨N + 4,0,none⟩) Lib.goPrintTabs.n32.length Lib.goPrintTabs.n32.length]
 let h11 := put h10 6 #[.slice (some ⟨N + 5,0,none⟩) Lib.goPrintTabs.p16.length Lib.goPrintTabs.p16.length]
 let h12 := put h11 8 #[.slice (some ⟨N + 6,0,none⟩) Lib.goPrintTabs.p32.length Lib.goPrintTabs.p32.length]
 { w0 with heap := h12 }
def Law_arg : Array Value := #[.agg #[.slice none 0 0],.agg #[.int .i64 0,.bool false,.slice none 0 0,.bool false,.slice none 0 0,.string ⟨#[]⟩,.int .i64 0],.agg #[.int .i64 0,.bool false,.slice none 0 0,.bool false,.slice none 0 0,.string ⟨#[]⟩,.int .i64 0],.agg #[.int .i64 0,.bool false,.slice none 0 0,.bool false,.slice none 0 0,.string ⟨#[]⟩,.int .i64 0]]
noncomputable abbrev N0 : Nat := (World.settled Tryz.prog default).heap.size
theorem Law_pc0 (os : Os) : LaidIn Tryz.prog ((Law_world os).forCall (fun _ _ => 0) ⟨#[],Law_arg,[]⟩).memory ((Rows.operatorsPutMatchesSpecUptoRow.laid.drop 0).take 7) [11,12,5,2,3,N0,N0 + 1,0,10,N0 + 2] :=
 LaidIn.of_run [11,12,5,2,3,N0,N0 + 1,0,10,N0 + 2] 10 (by kernel_rfl) (by kernel_rfl) (by kernel_rfl) (by kernel_rfl)
set_option maxRecDepth 1000000 in
theorem Law_pc1 (os : Os) : LaidIn Tryz.prog ((Law_world os).forCall (fun _ _ => 0) ⟨#[],Law_arg,[]⟩).memory [("strconv.isNotPrint16",Rows.laid_strconv_isNotPrint16)] [7,N0 + 3] := by
 rw [show (Rows.laid_strconv_isNotPrint16 : DataW Unit) = Lib.sliceData .u16 Lib.goPrintTabs.n16 from Go.Pinned.isNotPrint16_eq];exact Lib.laidIn_slice (t := 257) (e := 226) (te := 226) Lib.goPrintTabs.n16 (N0 + 3) (by kernel_rfl) (by kernel_rfl) (by kernel_rfl) (by kernel_rfl) (by kernel_rfl) (by kernel_rfl) (by kernel_rfl) (by kernel_rfl) (of_decide_eq_true (by kernel_rfl)) (of_decide_eq_true (by kernel_rfl))
set_option maxRecDepth 1000000 in
theorem Law_pc2 (os : Os) : LaidIn Tryz.prog ((Law_world os).forCall (fun _ _ => 0) ⟨#[],Law_arg,[]⟩).memory [("strconv.isNotPrint32",Rows.laid_strconv_isNotPrint32)] [9,N0 + 4] := by
 rw [show (Rows.laid_strconv_isNotPrint32 : DataW Unit) = Lib.sliceData .u16 Lib.goPrintTabs.n32 from Go.Pinned.isNotPrint32_eq];exact Lib.laidIn_slice (t := 257) (e := 226) (te := 226) Lib.goPrintTabs.n32 (N0 + 4) (by kernel_rfl) (by kernel_rfl) (by kernel_rfl) (by kernel_rfl) (by kernel_rfl) (by kernel_rfl) (by kernel_rfl) (by kernel_rfl) (of_decide_eq_true (by kernel_rfl)) (of_decide_eq_true (by kernel_rfl))
set_option maxRecDepth 1000000 in
theorem Law_pc3 (os : Os) : LaidIn Tryz.prog ((Law_world os).forCall (fun _ _ => 0) ⟨#[],Law_arg,[]⟩).memory [("strconv.isPrint16",Rows.laid_strconv_isPrint16)] [6,N0 + 5] := by
 rw [show (Rows.laid_strconv_isPrint16 : DataW Unit) = Lib.sliceData .u16 Lib.goPrintTabs.p16 from Go.Pinned.isPrint16_eq];exact Lib.laidIn_slice (t := 257) (e := 226) (te := 226) Lib.goPrintTabs.p16 (N0 + 5) (by kernel_rfl) (by kernel_rfl) (by kernel_rfl) (by kernel_rfl) (by kernel_rfl) (by kernel_rfl) (by kernel_rfl) (by kernel_rfl) (of_decide_eq_true (by kernel_rfl)) (of_decide_eq_true (by kernel_rfl))
set_option maxRecDepth 1000000 in
theorem Law_pc4 (os : Os) : LaidIn Tryz.prog ((Law_world os).forCall (fun _ _ => 0) ⟨#[],Law_arg,[]⟩).memory [("strconv.isPrint32",Rows.laid_strconv_isPrint32)] [8,N0 + 6] := by
 rw [show (Rows.laid_strconv_isPrint32 : DataW Unit) = Lib.sliceData .u32 Lib.goPrintTabs.p32 from Go.Pinned.isPrint32_eq];exact Lib.laidIn_slice (t := 28) (e := 133) (te := 133) Lib.goPrintTabs.p32 (N0 + 6) (by kernel_rfl) (by kernel_rfl) (by kernel_rfl) (by kernel_rfl) (by kernel_rfl) (by kernel_rfl) (by kernel_rfl) (by kernel_rfl) (of_decide_eq_true (by kernel_rfl)) (of_decide_eq_true (by kernel_rfl))
theorem Law_pc5 (os : Os) : LaidIn Tryz.prog ((Law_world os).forCall (fun _ _ => 0) ⟨#[],Law_arg,[]⟩).memory ((Rows.operatorsPutMatchesSpecUptoRow.laid.drop 11).take 1) [1] :=
 LaidIn.of_run [1] 10 (by kernel_rfl) (by kernel_rfl) (by kernel_rfl) (by kernel_rfl)
theorem Law_met (os : Os) : laidMet Tryz.prog Rows.operatorsPutMatchesSpecUptoRow.laid ((Law_world os).forCall (fun _ _ => 0) ⟨#[],Law_arg,[]⟩).memory :=
 ((((((Law_pc0 os).append (Law_pc1 os) (by kernel_rfl)).append (Law_pc2 os) (by kernel_rfl)).append (Law_pc3 os) (by kernel_rfl)).append (Law_pc4 os) (by kernel_rfl)).append (Law_pc5 os) (by kernel_rfl)).met
theorem Law_row (os : Os) {H : Type} (enc : TypeId × Value → H) :
  (Rows.OpenSpec.upto Rows.operatorsPutMatchesSpecSpec).preRow enc Tryz.prog Tryz.f6 Rows.operatorsPutMatchesSpecUptoRow.domain false Rows.operatorsPutMatchesSpecUptoRow.laid ((Law_world os).forCall (fun _ _ => 0) ⟨#[],Law_arg,[]⟩).memory Law_arg := by
 have hw : (DataW.whole enc Tryz.prog ((Law_world os).forCall (fun _ _ => 0) ⟨#[],Law_arg,[]⟩).memory Tryz.f6.params.toList Rows.operatorsPutMatchesSpecSpec.vars false Law_arg.toList 8).map (fun x => (x.1,x.2.1)) =
   some ([.agg [.nil],.agg [.lit (.int .i64 0),.agg [.lit (.bool false),.nil],.agg [.lit (.bool false),.nil],.lit (.string []),.lit (.int .i64 0)],.agg [.lit (.int .i64 0),.agg [.lit (.bool false),.nil],.agg [.lit (.bool false),.nil],.lit (.string []),.lit (.int .i64 0)],.agg [.lit (.int .i64 0),.agg [.lit (.bool false),.nil],.agg [.lit (.bool false),.nil],.lit (.string []),.lit (.int .i64 0)]],[]) := by kernel_rfl
 obtain ⟨⟨x1,x2,x3⟩,hx,hx1⟩ := Option.map_eq_some_iff.1 hw;simp only [Prod.mk.injEq] at hx1;obtain ⟨rfl,rfl⟩ := hx1;exact OpenSpec.preRow_of_cond 8 hx (by kernel_rfl) (fun k hk => by cases hk;kernel_rfl) (by kernel_rfl) (Law_met os)
set_option maxRecDepth 100000 in
set_option maxHeartbeats 2000000 in
theorem Law_lifted (os : Os) (started : os.Started) (H : Type) (enc : TypeId × Value → H) (F : Stop.Interp) :
  ReturnsInHanded {} Tryz.checked os 6 .any ((Rows.OpenSpec.upto Rows.operatorsPutMatchesSpecSpec).preRow enc Tryz.prog Tryz.f6 Rows.operatorsPutMatchesSpecUptoRow.domain false Rows.operatorsPutMatchesSpecUptoRow.laid) (((Rows.OpenSpec.upto Rows.operatorsPutMatchesSpecSpec).at F).post enc Tryz.prog Tryz.f6 false true false false) := by
 refine returnsInHanded_of_row (C := Tryz.checked) (s := Rows.OpenSpec.upto Rows.operatorsPutMatchesSpecSpec) Law_own started (by kernel_rfl) Tryz.func6
  (witness_row_atRef (enc := enc) (C := Tryz.checked) false (Law_world os) Law_arg rfl (by kernel_rfl) (by kernel_rfl) (by kernel_rfl) (Law_row os enc)) ?_
 intro W base args ds gs before hval0 hW _ hk _ hL hS _;have hval : ∀ (j : Nat) t v,Tryz.f6.params[j]? = some t → args[j]? = some v → Value.okWide Tryz.prog W .any base t v := hval0;have hW' := hW;obtain ⟨p,q,hA0,hV,rfl,hfz,hnd⟩ := hW;have hA : DataW.TrodAll enc Tryz.prog W 0 (fun _ => true) true Tryz.f6.params.toList args.toList ds p := hA0;obtain ⟨rfl,rfl⟩ := trodVars_none hV;have hA1 := hA;rw [Tryz.params6] at hA hval;obtain ⟨v0,vs0,d0,ds0,p0,q0,hargs,rfl,rfl,h0,r0⟩ := trodAll_cons hA;obtain ⟨v1,vs1,d1,ds1,p1,q1,rfl,rfl,rfl,h1,r1⟩ := trodAll_cons r0;obtain ⟨v2,vs2,d2,ds2,p2,q2,rfl,rfl,rfl,h2,r2⟩ := trodAll_cons r1;obtain ⟨v3,vs3,d3,ds3,p3,q3,rfl,rfl,rfl,h3,r3⟩ := trodAll_cons r2;obtain ⟨rfl,rfl,rfl⟩ := trodAll_nil r3;obtain rfl : args = #[v0,v1,v2,v3] := by cases args;simp_all
 have hb : Rows.uptoBulkAll [d0,d1,d2,d3] ≤ 1048576 := by
  have := hk _ rfl;simpa [Rows.uptoSmall] using this
 simp only [Rows.uptoBulkAll] at hb;obtain ⟨x0,a0,i0⟩ := Opn.agg Opn.heap Tryz.underlying24 (hval 0 24 v0 rfl rfl) h0;obtain ⟨x1,a1,i1⟩ := Opn.agg Opn.val Tryz.underlying32 (hval 1 32 v1 rfl rfl) h1;obtain ⟨x2,a2,i2⟩ := Opn.agg Opn.val Tryz.underlying32 (hval 2 32 v2 rfl rfl) h2;obtain ⟨x3,a3,i3⟩ := Opn.agg Opn.val Tryz.underlying32 (hval 3 32 v3 rfl rfl) h3;have hG := Law_glob hL hS;refine ((Law26_ok x0 x1 x2 x3 (i0 1048576 (by omega) (Nat.le_refl _)) (i1 1048576 (by omega) (Nat.le_refl _)) (i2 1048576 (by omega) (Nat.le_refl _)) (i3 1048576 (by omega) (Nat.le_refl _))).2 W (sW W) [v0,v1,v2,v3] (fun _ _ h => h) hG ⟨a0,a1,a2,a3,trivial⟩).mono fun e W' hQ => ?_;obtain ⟨s',x,he,hp,hst⟩ := hQ;have hp : x = .bool true := hp;subst hp;subst he;have bel := hst.below;have hl : laidOutB Tryz.prog = true := by kernel_rfl
 have hread : Tryz.f6.params.toList.all (fun t => Tryz.prog.readableRec t && decide (t < Tryz.prog.types.size)) = true := by kernel_rfl
 refine ⟨_,rfl,[d0,d1,d2,d3],[],_,[],(p0 ++ (p1 ++ (p2 ++ (p3 ++ ([]))))),[],hW',?_,?_,?_,bel.frame _,fun h => by cases h⟩
 ·exact trodAll_mk1 (shut_bool Tryz.underlying4 _)
 ·exact TrodAll_below hl bel _ _ _ _ (fun t ht => by have := List.all_eq_true.1 hread t ht;simpa using this) hA1
 ·rfl
theorem Law_fi : (Rows.operatorsPutMatchesSpecUptoRow.inPlace == Tryz.pinned.checked.prog.inPlace 6) = true := by kernel_rfl
theorem Law_fu : (Rows.operatorsPutMatchesSpecUptoRow.unfollowed == Tryz.pinned.checked.prog.unfollowed 6) = true := by kernel_rfl
theorem Law_fr : (Rows.operatorsPutMatchesSpecUptoRow.recurses == Tryz.pinned.checked.prog.recurses 6) = true := by kernel_rfl
theorem Law_fn : (Rows.operatorsPutMatchesSpecUptoRow.named == Tryz.pinned.checked.prog.varsNamed 6) = true := by kernel_rfl
theorem Law_facts : joinedFacts Tryz.pinned.checked.prog 6 Tryz.f6 (Rows.OpenSpec.upto Rows.operatorsPutMatchesSpecSpec).bare Rows.operatorsPutMatchesSpecUptoRow = true := by
 unfold joinedFacts;rw [Law_fi,Law_fu,Law_fr,Law_fn];kernel_rfl
theorem Law_inst : Tryz.f6.isInstance Tryz.pinned.checked.prog Rows.operatorsPutMatchesSpecUptoRow.origin Rows.operatorsPutMatchesSpecUptoRow.targs := of_decide_eq_true (by kernel_rfl)
theorem Law_wrap : Tryz.f6.isWrapper Tryz.pinned.checked.prog Rows.operatorsPutMatchesSpecUptoRow.wrapper Rows.operatorsPutMatchesSpecUptoRow.mainSum := by unfold Func.isWrapper;first | (rw [if_pos (by decide +kernel)];kernel_rfl) | (rw [if_neg (by decide +kernel)];exact ⟨rfl,rfl⟩)
theorem Law_named : Tryz.pinned.checked.prog.funcNamed Rows.operatorsPutMatchesSpecUptoRow.func = some 6 := by kernel_rfl
theorem Law_looks : false = Tryz.pinned.checked.prog.looks [] := by kernel_rfl
theorem Law_goes : false = Rows.operatorsPutMatchesSpecUptoRow.goesBy Tryz.pinned.checked.prog := by kernel_rfl
theorem Law_wf : Rows.operatorsPutMatchesSpecUptoRow.wfByText (Rows.OpenSpec.upto Rows.operatorsPutMatchesSpecSpec) = true := by kernel_rfl
theorem Law_main : Tryz.pinned.checked.prog.mainIs = some (Rows.operatorsPutMatchesSpecUptoCard.stood.harness.1,Rows.operatorsPutMatchesSpecUptoCard.stood.harness.2.toList) := by kernel_rfl
theorem Law_said : Rows.OperatorsPutMatchesSpecUptoSaid :=
 OpenClaim.holds_of_cond 6 Tryz.f6 rfl rfl rfl rfl rfl rfl rfl ⟨rfl,rfl,rfl,rfl,rfl⟩ rfl rfl rfl rfl rfl Law_named Tryz.func6 Law_facts Law_inst Law_wrap
  (fun os started H enc _ F => by rw [OpenClaim.pre_eq_preRow];exact Law_lifted os started H enc F)
theorem Law_plain (f : FuncId) (fn : Func) (hf : Tryz.pinned.checked.prog.funcNamed "brindlewood/brindlewoodlaw7.OperatorsPutMatchesSpec" = some f) (hfn : Tryz.pinned.checked.prog.funcs[f]? = some fn) :
  false = Tryz.pinned.checked.prog.looks [] ∧ ∀ (j : Nat) t,fn.params[j]? = some t → Tryz.pinned.checked.prog.wantsStandIn t = false := by
 obtain rfl : f = 6 := Option.some.inj (Law_named.symm.trans hf) |>.symm;obtain rfl : fn = Tryz.f6 := (Option.some.inj (Tryz.func6.symm.trans hfn)).symm;refine ⟨Law_looks,fun j t ht => ?_⟩;rw [Tryz.params6] at ht;have hm := Array.mem_of_getElem? ht;simp only [List.mem_toArray,List.mem_cons,List.not_mem_nil,or_false] at hm;have wh : Tryz.prog.wantsStandIn 24 = false := by kernel_rfl
 have wv : Tryz.prog.wantsStandIn 32 = false := by kernel_rfl
 rcases hm with rfl | rfl | rfl | rfl
 ·exact wh
 ·exact wv
 ·exact wv
 ·exact wv
theorem Law_holds : Rows.OperatorsPutMatchesSpecUptoCardSaid :=
 Claim7.holds_tied_plain_at .later [] _ _ _ _ Law_said (fun _ h => by cases h) Law_wf (fun _ h => by cases h) operatorsPutMatchesSpecUpto_row_tie rfl ⟨rfl,rfl⟩ Law_main rfl Law_plain Law_goes
end Go.Proofs.YteljekdggfhhmaaGreatDoor
