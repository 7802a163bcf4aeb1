/- Part 22 of the proof. -/
import Derived.Test.YtifgelimmddkpaaGreatDoorM21
namespace Go.Proofs.YtifgelimmddkpaaGreatDoor
open Go.RowKit
variable {md me : Bool}
structure Skc (h : List Ob) (l : List Vl) : Prop where
 hc : HpC h
 hn : h.length ≤ 2000000
 vc : ∀ v ∈ l,VlC h.length v
 ln : l.length ≤ 2000000
 cost : cVs l + cH h ≤ 1073741824
theorem cOs_le {h : List Ob} {m : Nat} (hm : m ≤ h.length) : cOs h (List.range m) ≤ cH h := dY List.nodup_range fun n hn => by have := Ch.1 hn;omega
theorem cOs_succ (h : List Ob) (m : Nat) : cOs h (List.range (m + 1)) = cOs h (List.range m) + cO (h.getD m ob0) := by
 rw [cOs,cOs,List.range_succ,Ad,Df,Dl,Dm]
theorem SkI.nil (b : Int) (N : Nat) : SkI b N ⟨[],[]⟩ := ⟨(fun _ h => by cases h),List.nodup_nil⟩
theorem Rn.cost {b : Int} {e : Bool} {h : List Ob} {m C : Nat} {kf : Skt} (x : Rn b e h m C kf) (hi : x.i < x.k.ord.length) (hm : (m : Int) ≤ b) (hm2 : m ≤ h.length) : x.k.out.length + cO (h.getD (x.k.ord.getD x.i 0).toNat ob0) ≤ C + cH h := by
 have h1 := x.len;have h2 := xX0 (i := x.i + 1) x.inv hm hm2;have e0 : x.k.ord.getD x.i 0 = x.k.ord[x.i] := by rw [Ai,Ac hi];rfl
 rw [List.take_add_one,Ac hi] at h2;rw [e0];simp only [cOs,Ad,Df,Option.toList_some,Bh,List.map_nil,Bu,List.sum_nil,Option.getD_some] at h1 h2 ⊢;omega
structure Bs (n : Nat) (h : List Ob) (k0 : Skt) where
 i : Nat
 le : i ≤ min n h.length
theorem yJ1 {P : Program} {K : DS → Prop} {p : Prop} {r : Out} (hr : r.sat P K) (hp : p := by first | exact ⟨rfl,by show _ < y.k.ord.length;omega⟩ | rfl | (simp only [MR.len,Ao];done) | (simp only [MR.len,Ao];omega) | exact Dz) : (Out.need p r).sat P K := ⟨hp,hr⟩
set_option maxHeartbeats 2000000 in
theorem cZ (a : List Ob) (n : Nat) (l : List Vl) (hs : Skc a l) (hn : n ≤ 2000000) : Fn Tryz.prog 110 [hpD me a,.v (.int .i64 n),.sl false 7 l vlD vl0] (.v (.string (dG a n l))) := by
 have hc := hs.cost;have hal := hs.hn;have hb0 : (0 : Int) ≤ (n : Nat) := by omega
 have hN0 : a.length ≤ 1000000000 := by omega
 have v1 := dT0 (SkI.nil (n : Nat) a.length) hb0 hN0 hs.vc;have v2 := v1.len;have v3 : (⟨[],[]⟩ : Skt).out.length = 0 := rfl;have hm2 : min n a.length ≤ a.length := Nat.min_le_right _ _;have hm1 : ((min n a.length : Nat) : Int) ≤ (n : Nat) := by have := Nat.min_le_left n a.length;omega
 have b1 := vR0 (e := true) v1.inv hb0 hN0 hs.hc hm2;refine yL zJ Tryz.func110 rfl rfl rfl rfl rfl rfl ?_;intro w0 s0 mx;refine zL 100 ?_;refine zL 200 ?_;refine wP 103 2 3 1 rfl rfl ?_;refine wP 103 3 5 1 rfl rfl ?_;refine kM 200 rfl ?_;refine kM 201 rfl ?_;refine yH [1,2,3,7] [0] 212 [] [(103,.box 156 [.sl me 10 a obD ob0,.v (.int .i64 (n : Nat)),.mo 200 ((⟨[],[]⟩ : Skt)).ord.length,.mo 201 ((⟨[],[]⟩ : Skt)).out.length]),(200,.mrow 3 1 (.map ((⟨[],[]⟩ : Skt)).ord iD 0)),(201,.mrow 5 1 (.map ((⟨[],[]⟩ : Skt)).out u8D 0))] ?_;refine ⟨⟨yG,⟨⟨rfl,Sub.refl _,rfl,Sub.refl _,rfl,Sub.mo (rfl),rfl,Sub.mo (rfl),rfl,trivial⟩,SubO.mp (rfl),SubO.mp (rfl),yD⟩,rfl,rfl⟩,?_⟩;refine zB (zE zJ [1016] 300 rfl ?_);refine zF ?_;refine yK _ _ (kW a (n : Nat) a.length ⟨[],[]⟩ l hb0 hN0 (SkI.nil _ _) hs.vc (by omega) hs.ln) rfl ?_;refine zF ?_;refine zC (zA (zB (zL 400 ?_)));refine zR ?_;refine yC (ι := Bs n a (Skt.vs (n : Nat) ⟨[],[]⟩ l)) [1,3,7] [0] 450 (fun x => [(8,.v (.int .i64 x.i))]) (fun x => [(103,.box 156 [.sl me 10 a obD ob0,.v (.int .i64 (n : Nat)),.mo 200 (Skt.base (n : Nat) true a (Skt.vs (n : Nat) ⟨[],[]⟩ l) x.i).ord.length,.mo 201 (Skt.base (n : Nat) true a (Skt.vs (n : Nat) ⟨[],[]⟩ l) x.i).out.length]),(200,.mrow 3 1 (.map (Skt.base (n : Nat) true a (Skt.vs (n : Nat) ⟨[],[]⟩ l) x.i).ord iD 0)),(201,.mrow 5 1 (.map (Skt.base (n : Nat) true a (Skt.vs (n : Nat) ⟨[],[]⟩ l) x.i).out u8D 0))]) (fun x => a.length - x.i) ⟨0,Ap _⟩ ?_;refine ⟨⟨⟨Sub.int rfl,yG⟩,⟨⟨rfl,Sub.refl _,rfl,Sub.refl _,rfl,Sub.mo (rfl),rfl,Sub.mo (rfl),rfl,trivial⟩,SubO.mp (rfl),SubO.mp (rfl),yD⟩,rfl,rfl⟩,fun x => ?_⟩;have hk0 := x.le;refine zB (zL 500 ?_);refine zS rfl (fun c4 => ?_) (fun c4 => ?_)
 ·have hlt : x.i < n ∧ x.i < a.length := by simpa using c4
  have b2 := vR0 (e := true) v1.inv hb0 hN0 hs.hc (m := x.i) (by omega);have b3 := b2.len;have b4 := cOs_le (h := a) (m := x.i + 1) (by omega);rw [cOs_succ] at b4;refine zN (zA (zB (zR ?_)));refine zE zJ [1031] 700 rfl ?_;refine zF ?_;refine yK _ _ (mH0 a (n : Nat) (Skt.base (n : Nat) true a (Skt.vs (n : Nat) ⟨[],[]⟩ l) x.i) (x.i : Nat) true hb0 hN0 hs.hc (by omega) (by omega) b2.inv (by rw [Aw];omega)) rfl ?_;refine zF ?_;refine zC (zP (zA (yT zJ [] 800 ?_)));have hN := jV0 (n : Nat) true a (Skt.vs (n : Nat) ⟨[],[]⟩ l) x.i;exact zV ⟨x.i + 1,by omega⟩ ⟨⟨Sub.int (by push_cast;rfl),yG⟩,⟨⟨rfl,Sub.refl _,rfl,Sub.refl _,rfl,Sub.mo (congrArg (fun k : Skt => k.ord.length) hN).symm,rfl,Sub.mo (congrArg (fun k : Skt => k.out.length) hN).symm,rfl,trivial⟩,SubO.mp (congrArg (fun k : Skt => D.pvss (k.ord.map iD)) hN).symm,SubO.mp (congrArg (fun k : Skt => D.pvss (k.out.map u8D)) hN).symm,yD⟩,rfl,rfl⟩ (by show a.length - (x.i + 1) < a.length - x.i;omega)
 ·have hke : x.i = min n a.length := by have := x.le;simp at c4;omega
  refine yF (yA (yB (zY (zA (zB (zL 800 ?_))))));refine zR ?_;refine yC (ι := Rn (n : Nat) true a (min n a.length) (cVs l) (Skt.run (n : Nat) true a a.length 0 (Skt.base (n : Nat) true a (Skt.vs (n : Nat) ⟨[],[]⟩ l) (min n a.length)))) [7] [] 850 (fun y => [(9,.v (.int .i64 y.i))]) (fun y => [(103,.box 156 [.sl me 10 a obD ob0,.v (.int .i64 (n : Nat)),.mo 200 (y.k).ord.length,.mo 201 (y.k).out.length]),(200,.mrow 3 1 (.map (y.k).ord iD 0)),(201,.mrow 5 1 (.map (y.k).out u8D 0))]) (fun y => a.length - y.i) (Rn.start true (Skt.base (n : Nat) true a (Skt.vs (n : Nat) ⟨[],[]⟩ l) (min n a.length)) b1.inv (by have := b1.len;omega)) ?_;refine ⟨⟨⟨Sub.int rfl,yG⟩,⟨⟨rfl,Sub.refl _,rfl,Sub.refl _,rfl,Sub.mo (by rw [hke];rfl),rfl,Sub.mo (by rw [hke];rfl),rfl,trivial⟩,SubO.mp (by rw [hke];rfl),SubO.mp (by rw [hke];rfl),yD⟩,rfl,rfl⟩,fun y => ?_⟩;have yl := y.inv.len hb0;have yo := y.le;have yb := y.bound hm1 hm2;refine zB (zL 900 ?_);refine zS rfl (fun c8 => ?_) (fun c8 => ?_)
  ·have hlt2 : y.i < y.k.ord.length := by simpa using c8
   have y1 := y.at hlt2;have y2 := y.cost hlt2 hm1 hm2;refine zN (zA (zB (zR ?_)));refine zE zJ [1049] 1100 rfl ?_;repeat (first | refine zG ?_ | refine zH ?_ | refine yJ1 ?_)
   refine yK _ _ (mH0 a (n : Nat) y.k (y.k.ord.getD y.i 0) true hb0 hN0 hs.hc (by omega) y1.2 y.inv (by omega)) rfl ?_;repeat (first | refine zG ?_ | refine zH ?_ | refine yJ1 ?_)
   refine zC (zP (zA (yT zJ [] 1200 ?_)));exact zV (y.next hlt2 hb0 hN0 hs.hc) ⟨⟨Sub.int (by show (y.i : Int) + 1 = ((y.i + 1 : Nat) : Int);push_cast;rfl),yG⟩,⟨⟨rfl,Sub.refl _,rfl,Sub.refl _,rfl,Sub.mo (rfl),rfl,Sub.mo (rfl),rfl,trivial⟩,SubO.mp (rfl),SubO.mp (rfl),yD⟩,rfl,rfl⟩ (by show a.length - (y.i + 1) < a.length - y.i;omega)
  ·have hfe := y.fin (by simpa using c8);refine yF (yA (yB (zY (zA ?_))));refine uQ 201 rfl (by repeat (first | exact trivial | exact rfl | refine ⟨?_,?_⟩)) (by repeat (first | exact trivial | exact (fun _ => rfl) | exact (fun h => absurd h (by decide)) | exact rfl | refine ⟨?_,?_⟩)) ?_;refine zB (zE zJ [] 1200 rfl ?_);repeat (first | refine zG ?_ | refine zH ?_ | refine zW (by first | rfl | exact (congrArg (List.map u8D) (xQ _)).symm | exact Dz) ?_)
   refine zC (zA (zK ?_));exact FinV.ret rfl (SubP.str (by unfold dG;exact (congrArg (fun l : List UInt8 => (⟨l.toArray⟩ : ByteArray)) (xQ _)).trans (congrArg (fun k : Skt => (⟨k.out.toArray⟩ : ByteArray)) hfe)))
variable {md me : Bool}
def plnD (l : List St) (s : St) : D := .agg (stsD l :: stD s)
variable {md me : Bool}
def byV (t : ByteArray) : Vl := ⟨5,false,[],false,[],t,0⟩
theorem SubP.ownRows {α : Type} {k sz : Nat} {rows : List (List D)} {l : List α} {f : α → List D} {e : α} (h : RowsP rows (l.map f)) : SubP (.own k sz rows) (.sl false sz l f e) := fun w s v hv => by
 have h1 := zK0 h hv;rw [yR,Cb] at h1;exact h1
def spV (s : St) : List Vl := nuV s.k :: nuV s.c :: byV s.s :: s.v :: s.w :: s.l
def spW (s : St) : List Vl := nuV (s.l.length : Nat) :: spV s
def pvS (L : List St) : List Vl := L.flatMap spW
structure StI (s : St) : Prop where
 k1 : -9223372036854775808 ≤ s.k
 k2 : s.k ≤ 9223372036854775807
 c1 : -9223372036854775808 ≤ s.c
 c2 : s.c ≤ 9223372036854775807
 l : s.l.length ≤ 1000000
theorem uN0 {s : St} (h : StI s) : (spW s).length ≤ 1000006 := by
 have := h.l;show s.l.length + 1 + 1 + 1 + 1 + 1 + 1 ≤ _;omega
theorem mO0 : ∀ {L : List St},(∀ s ∈ L,StI s) → (pvS L).length ≤ L.length * 1000006
 | [],_ => Ap _
 | s :: L,h => by
  have h1 := uN0 (h s Ay);have h2 := mO0 (L := L) fun x hx => h x (Az _ hx);rw [pvS,List.flatMap_cons,Ae,Ak];rw [pvS] at h2;omega
theorem wN0 {L : List St} {i : Nat} (h : i < L.length) : pvS (L.take (i + 1)) = pvS (L.take i) ++ spW (L.getD i st0) := by
 rw [List.take_add_one,Ac h,Ai,Ac h,pvS,pvS,List.flatMap_append];simp
theorem st_at {L : List St} {i : Nat} (h : i < L.length) (hL : ∀ s ∈ L,StI s) : StI (L.getD i st0) := by
 rw [Ai,Ac h];exact hL _ (Ca _)
noncomputable def mJ0 (h a : List Ob) (l : List St) (s : St) (b : List Ob) (l' : List St) (s' : St) : Bool := (decide ((h.length : Int) ≤ (a.length : Int)) && decide ((l.length : Int) = (l'.length : Int))) && decide (dG a h.length (pvS (s :: l)) = dG b h.length (pvS (s' :: l')))
theorem cT0 {P : Program} {K : DS → Prop} {p : Prop} {r : Out} (hr : r.sat P K) (hp : p := by first | exact jG (by have := hs.l;omega) | (simp only [Ao,Ak,Aq];have := hs.l;omega) | exact Dz) : (Out.need p r).sat P K := ⟨hp,hr⟩
theorem StepValues_ok (s : St) (hs : StI s) : Fn Tryz.prog 143 [.agg (stD s)] (.sl false 7 (spV s) vlD vl0) := by
 refine yL zJ Tryz.func143 rfl rfl rfl rfl rfl rfl ?_;intro w0 s0 mx;refine zL 100 ?_;refine zB (zU zJ [16,19] [[],[0],[0,1],[],[3],(rgN 5),[],[6],[6,7],[],[9],[],[11],(rgN 13),[],[14],(rgN 16),(rgN 17)] 200 yP (by kernel_rfl) rfl ?_);repeat (first | refine zG ?_ | refine zH ?_ | refine cT0 ?_)
 refine zT _ (N_ok s.k hs.k1 hs.k2) rfl ?_;repeat (first | refine zG ?_ | refine zH ?_ | refine cT0 ?_)
 refine zT _ (N_ok s.c hs.c1 hs.c2) rfl ?_;repeat (first | refine zG ?_ | refine zH ?_ | refine cT0 ?_)
 refine zC (zA (zK ?_));exact FinV.ret rfl (SubP.ownRows (by exact ⟨SubPs.refl _,SubPs.refl _,⟨SubP.refl _,SubP.refl _,SubP.nilSl rfl,SubP.refl _,SubP.nilSl rfl,SubP.refl _,SubP.refl _,trivial⟩,SubPs.refl _,SubPs.refl _,RowsP.refl _⟩))
theorem yI1 {P : Program} {K : DS → Prop} {p : Prop} {r : Out} (hr : r.sat P K) (hp : p := by first | (simp only [Ao,Ak,Aq];omega) | exact Dz) : (Out.need p r).sat P K := ⟨hp,hr⟩
theorem yH1 {P : Program} {K : DS → Prop} {p : Prop} {r : Out} (hr : r.sat P K) (hp : p := by first | (simp only [Ae,Ao,Ak,Aq];have : (spV ((s :: l).getD x.1 st0)).length + 1 = (spW ((s :: l).getD x.1 st0)).length := rfl;omega) | exact Dz) : (Out.need p r).sat P K := ⟨hp,hr⟩
theorem mS (l : List St) (s : St) (hl : l.length ≤ 1000) (hs : ∀ t ∈ s :: l,StI t) : Fn Tryz.prog 111 [plnD l s] (.sl false 7 (pvS (s :: l)) vlD vl0) := by
 have hL : (s :: l).length = l.length + 1 := rfl;refine yL zJ Tryz.func111 rfl rfl rfl rfl rfl rfl ?_;intro w0 s0 mx;refine zL 100 ?_;refine zL 200 ?_;refine yW 3 29 7 rfl ?_;refine zB ?_;refine zB (zE zJ [8,11] 300 rfl ?_);repeat (first | refine zG ?_ | refine zH ?_ | refine zW (by first | exact jG (by omega) | (simp only [Ao,Ak,Aq];omega) | exact Dz) ?_)
 refine zC (zA ?_);refine yH [3,12,13] [200] 310 [(11,.sl false 18 (s :: l) stD st0)] [] ?_;refine ⟨⟨⟨Sub.ownSl rfl,yG⟩,yD,rfl,rfl⟩,?_⟩;refine zR ?_;refine yC (ι := {i : Nat // i ≤ (s :: l).length}) [11,12] [] 350 (fun x => [(13,.v (.int .i64 x.1)),(3,.own 200 7 ((pvS ((s :: l).take x.1)).map vlD))]) (fun x => [(200,.row 29 7 ((pvS ((s :: l).take x.1)).map vlD).length)]) (fun x => (s :: l).length - x.1) ⟨0,Ap _⟩ ?_;refine ⟨⟨yG,yD,rfl,rfl⟩,fun x => ?_⟩;have hk0 : x.1 ≤ (s :: l).length := x.2;refine zL 400 ?_;refine zB (zS rfl (fun c3 => ?_) (fun c3 => ?_))
 ·have hlt : x.1 < (s :: l).length := by simp at c3 ⊢;omega
  have hsi := st_at hlt hs;have hsl := hsi.l;have hp1 := mO0 (L := (s :: l).take x.1) (fun t ht => hs t (Ci ht));rw [Au] at hp1;have hp2 : min x.1 (s :: l).length ≤ 1000 := by omega
  have hp3 := uN0 hsi;refine zN (zA (zB (zR (zL 500 ?_))));refine yH [3,5,11,12,13] [200,402] 510 [] [(402,.box 43 (stD ((s :: l).getD x.1 st0)))] ?_;refine ⟨⟨yG,⟨⟨rfl,SubL.same rfl⟩,yD⟩,rfl,rfl⟩,?_⟩;refine zB (zE zJ [] 600 rfl ?_);repeat (first | refine zG ?_ | refine zH ?_ | refine yI1 ?_)
  refine zT _ (N_ok (((s :: l).getD x.1 st0).l.length : Nat) (by omega) (by omega)) rfl ?_;repeat (first | refine zG ?_ | refine zH ?_ | refine yI1 ?_)
  refine zC (zA ?_);refine zE zJ [] 700 rfl ?_;repeat (first | refine zG ?_ | refine zH ?_ | refine yH1 ?_)
  refine zT _ (StepValues_ok ((s :: l).getD x.1 st0) hsi) rfl ?_;repeat (first | refine zG ?_ | refine zH ?_ | refine yH1 ?_)
  refine zC (zP (zA (yT zJ [] 800 ?_)));exact zV ⟨x.1 + 1,by omega⟩ ⟨⟨Sub.int (by push_cast;rfl),Sub.own (by rw [wN0 hlt,Ad,Co];rfl),yG⟩,⟨⟨rfl,rfl,by rw [wN0 hlt];simp only [Ae,Ao,Ak,Aq];have : (spW ((s :: l).getD x.1 st0)).length = (spV ((s :: l).getD x.1 st0)).length + 1 := rfl;omega⟩,yD⟩,rfl,rfl⟩ (by show (s :: l).length - (x.1 + 1) < (s :: l).length - x.1;omega)
 ·have hke : x.1 = (s :: l).length := by simp at c3;omega
  refine yF (yA (yB (zY (zA (zL 900 ?_)))));refine zK ?_;exact FinV.ret rfl (SubP.ownSl (by rw [An (by omega)]))
theorem SameEffect_ok (h a : List Ob) (l : List St) (s : St) (b : List Ob) (l' : List St) (s' : St) (hh : h.length ≤ 2000000) (hl : l.length ≤ 1000) (hl' : l'.length ≤ 1000) (hs : ∀ t ∈ s :: l,StI t) (hs' : ∀ t ∈ s' :: l',StI t) (ha : Skc a (pvS (s :: l))) (hb : Skc b (pvS (s' :: l'))) : Fn Tryz.prog 72 [hpD md h,hpD me a,plnD l s,hpD me b,plnD l' s'] (.v (.bool (mJ0 h a l s b l' s'))) := by
 refine yL zJ Tryz.func72 rfl rfl rfl rfl rfl rfl ?_;intro w0 s0 mx;refine zL 100 ?_;refine zL 200 ?_;refine zB (zU zJ [] [[],[0],[0,1],[],[0,1,2,3],(rgN 5),(rgN 6),(rgN 7),(rgN 8),(rgN 6),[0,1,2,3,4,5,9],[0,1,2,3,4,5,9,10],(rgN 12),(rgN 13),(rgN 14),(rgN 15),(rgN 15),(rgN 15),[0,1,2,3,4,5,6,7,8,9,10,11,12,13,14,17],(rgN 19),(rgN 15),(rgN 15),(rgN 15),[0,1,2,3,4,5,6,7,8,9,10,11,12,13,14,15,16,17,18,19,22],(rgN 24),(rgN 25),(rgN 26),(rgN 27)] 300 yP (by kernel_rfl) rfl ?_);refine zF ?_;refine yS _ (fun hg18 => mS l s hl hs) rfl ?_;refine zF ?_;refine yS _ (fun hg19 => cZ a h.length _ ha hh) rfl ?_;refine zF ?_;refine yS _ (fun hg23 => mS l' s' hl' hs') rfl ?_;refine zF ?_;refine yS _ (fun hg24 => cZ b h.length _ hb hh) rfl ?_;refine zF ?_;refine zC (zA (zK ?_));exact FinV.ret rfl (SubP.bool (by unfold mJ0;simp [Bool.and_assoc]))
theorem SameStepEffect_ok (h a : List Ob) (s : St) (b : List Ob) (s' : St) (hh : h.length ≤ 2000000) (hs : StI s) (hs' : StI s') (ha : Skc a (pvS [s])) (hb : Skc b (pvS [s'])) : Fn Tryz.prog 22 [hpD md h,hpD me a,.agg (stD s),hpD me b,.agg (stD s')] (.v (.bool (mJ0 h a [] s b [] s'))) := by
 refine yL zJ Tryz.func22 rfl rfl rfl rfl rfl rfl ?_;intro w0 s0 mx;refine zL 100 ?_;refine zB (zE zJ [] 200 rfl ?_);refine zF ?_;refine zT _ ((SameEffect_ok h a [] s b [] s' hh (by decide) (by decide) (fun t ht => by rw [By.1 ht];exact hs) (fun t ht => by rw [By.1 ht];exact hs') ha hb).args ⟨SubP.refl _,SubP.refl _,SubP.agg ⟨SubP.nilSl rfl,SubPs.refl _⟩,SubP.refl _,SubP.agg ⟨SubP.nilSl rfl,SubPs.refl _⟩,trivial⟩) rfl ?_;refine zF ?_;refine zC (zA (zK ?_));exact FinV.ret rfl (SubP.refl _)
theorem uE0 {v : Vl} (h : jJ v = true) : v.nl.length ≤ 128 ∧ v.dl.length ≤ 128 ∧ v.s.size ≤ 4000 := by
 have hz : ∀ {b : Bool} {l : List Nat},zI b l = true → l.length ≤ 128 := fun h => by rw [zI,mG0] at h;rw [h.2];decide
 have hi : ∀ {b : Bool} {l : List Nat},xV b l = true → l.length ≤ 128 := fun h => by
  simp only [xV,Ah,Am] at h;exact h.1
 have he : ∀ {s : ByteArray},emS s = true → s.size ≤ 4000 := fun h => by
  have := Af h;subst this;decide
 unfold jJ at h;repeat' split at h
 all_goals (try simp only [Ah,Am] at h)
 ·exact ⟨hz h.1.1.1,hz h.1.1.2,he h.1.2⟩
 ·exact ⟨hz h.1.1.1,hz h.1.1.2,he h.1.2⟩
 ·exact ⟨hi h.1.1.1,hz h.1.1.2,he h.1.2⟩
 ·have hr := h.1.1.1;simp only [ratS,Ah] at hr;exact ⟨hi hr.1.1.1,hi hr.1.1.2,he h.1.2⟩
 ·exact ⟨hz h.1.1.1.1,hz h.1.1.1.2,by have := h.2;omega⟩
 ·exact ⟨hz h.1.1.1,hz h.1.1.2,by have := h.2;omega⟩
 ·have hd := h.2;simp only [dotS,Ah,Am] at hd;exact ⟨hz h.1.1.1,hz h.1.1.2,by have := hd.2;omega⟩
 ·exact ⟨hz h.1.1,hz h.1.2,he h.2⟩
 ·cases h
theorem kH0 {v : Vl} (h : jJ v = true) : cV v ≤ 2108 + 10 * v.s.size := by
 have := uE0 h;unfold cV;omega
theorem pP0 (o : Ob) (v : Vl) : cV (fixV o v) = cV v ∧ (fixV o v).s = v.s := by
 unfold fixV;split <;> exact ⟨rfl,rfl⟩
theorem dG0 : ∀ {l : List Vl},(∀ v ∈ l,cV v ≤ 2108 + 10 * v.s.size) → cVs l ≤ 2108 * l.length + 10 * (l.map fun v => v.s.size).sum + 1
 | [],_ => Ar _
 | v :: l,h => by
  have h1 := h v Ay;have h2 := dG0 (l := l) fun x hx => h x (Az _ hx);unfold cVs at h2 ⊢;rw [Bh,Bu,Bh,Bu,Ak];omega
theorem gH (f : Nat → Nat) : ∀ n,sumN f n = ((List.range n).map f).sum
 | 0 => rfl
 | n + 1 => by rw [sumN,gH f n,List.range_succ,Ad,Df,Dl,Dm]
theorem pI {α : Type} (g : α → Nat) (d : α) : ∀ l : List α,((List.range l.length).map fun j => g (l.getD j d)).sum = (l.map g).sum
 | [] => rfl
 | x :: l => by
  rw [Ak,List.range_succ_eq_map,Bh,Bu,Cb,Bh,Bu,← pI g d l];rfl
theorem bytO_eq (o : Ob) : bytO o (kvs o).length = ((kvs o).map fun v => v.s.size).sum := by
 rw [bytO,gH];exact pI (fun v : Vl => v.s.size) vl0 (kvs o)
theorem tD0 : ∀ {l seen : List ByteArray},nmF seen l = 0 → ∀ s ∈ l,uZ s = true
 | [],_,_,_,h => by cases h
 | x :: l,seen,h,s,hs => by
  rw [nmF] at h;split at h
  ·cases h
  ·rename_i h1;split at h
   ·cases h
   ·rcases Be.1 hs with rfl | hs
    ·simpa using h1
    ·exact tD0 h s hs
theorem kE {s : ByteArray} (h : uZ s = true) : s.size ≤ 24 := by
 simp only [uZ,Ah,Bc,Cl,At] at h;have := h.1.2;omega
theorem qP0 : ∀ {l : List ByteArray},(∀ s ∈ l,s.size ≤ 24) → (l.map fun s => s.size + 1).sum ≤ 25 * l.length
 | [],_ => Ar _
 | s :: l,h => by
  have h1 := h s Ay;have h2 := qP0 (l := l) fun x hx => h x (Az _ hx);rw [Bh,Bu,Ak];omega
theorem qR0 {o : Ob} (hs : jS o = 0) (hz : vO o = 0) : o.name.size ≤ 60 := by
 by_cases hc : Lib.contains (jY o.kind).data.toList [110] = true
 ·unfold vO at hz;rw [hc,Bool.true_and] at hz;split at hz
  ·cases hz
  ·rename_i h1;have h1 : xS o = true := by simpa using h1
   unfold xS at h1;split at h1
   ·simp only [dotS,Ah,Am] at h1;have := h1.2;omega
   ·have := kE h1;omega
 ·unfold jS at hs;split at hs
  ·rename_i h1;have h2 := Bd.1 h1 0 (by decide);have e : (lettersB.extract ((0 : Nat) : Int).toNat (((0 : Nat) : Int) + 1).toNat).data.toList = [110] := by decide +kernel
   unfold ltP at h2;rw [e] at h2;have hc : Lib.contains (jY o.kind).data.toList [110] = false := by simpa using hc
   rw [hc] at h2;have h3 : decide (o.name = ⟨#[]⟩) = true := by simpa [jS0] using h2
   have := Af h3;rw [this];decide
  ·cases hs
theorem wG0 {o : Ob} (hz : vO o = 0) : o.names.length ≤ 200 ∧ o.items.length ≤ 1000 ∧ o.keys.length ≤ 1000 ∧ o.refs.length ≤ 1000 := by
 unfold vO at hz;split at hz
 ·cases hz
 ·split at hz
  ·cases hz
  ·rename_i h2;simp only [Bz,Am,not_or] at h2;obtain ⟨h3,h4⟩ := h2;unfold mx3 at h3;repeat' split at h3
   all_goals omega
theorem wV0 {h : List Ob} {o : Ob} {i : Int} (hs : jS o = 0) (ho : uA h o i = true) : o.order.length ≤ 40 := by
 by_cases hk : o.kind = 9
 ·unfold uA at ho;rw [Aa (fun hh => hh hk)] at ho;simp only [Ah,Am] at ho;rw [ho.2,Ae];have : (uJ (tT h o)).1.length ≤ 39 := by
   unfold uJ;repeat' split
   ·exact Ap _
   ·exact Ap _
   ·exact Ap _
   ·show (mgS (tT h o)).1.length ≤ 39;omega
  show 1 + _ ≤ _;omega
 ·rw [(tS hs).2.2.2.2 hk];exact Ap _
theorem cO_hi {h : List Ob} {o : Ob} {i : Nat} (g : Uho h o i) : cO o ≤ 6704 + 2108 * (o.items.length + o.keys.length + o.refs.length) + 10 * ((kvs o).map fun v => v.s.size).sum := by
 have v := yY0 g.vals;have h1 := qR0 g.shape g.sizes;have h2 := wG0 g.sizes;have h3 := wV0 g.shape g.order;have h4 := qP0 fun s hs => kE (tD0 g.names s hs);have hv : ∀ x ∈ o.keys ++ o.items,cV x ≤ 2108 + 10 * x.s.size := fun x hx => by
  have e := pP0 o x;have := kH0 (v.ok x hx);rw [e.1,e.2] at this;exact this
 have h5 := dG0 (l := o.keys) fun x hx => hv x (Ax.2 (.inl hx));have h6 := dG0 (l := o.items) fun x hx => hv x (Ax.2 (.inr hx));have h7 : ((kvs o).map fun v => v.s.size).sum = (o.items.map fun v => v.s.size).sum + (o.keys.map fun v => v.s.size).sum := by
  rw [kvs,Ad,Df]
 have hc : cO o = 120 + 10 * o.name.size + (o.names.map fun s => s.size + 1).sum + 23 * o.refs.length + 23 * o.order.length + cVs o.keys + cVs o.items := rfl;rw [hc,h7];omega
theorem bg_ok : (List.range 49).all (fun i => decide (cO (bgO i) ≤ 6704) && (((bgO i).refs.all fun n => decide (0 ≤ n) && decide (n < 49)) && ((bgO i).order.all fun n => decide (0 ≤ n) && decide (n < 49)))) = true := by decide +kernel
theorem gD0 {i : Nat} (hi : i < 49) : cO (bgO i) ≤ 6704 ∧ (∀ n ∈ (bgO i).refs,0 ≤ n ∧ n < 49) ∧ ∀ n ∈ (bgO i).order,0 ≤ n ∧ n < 49 := by
 have h := Bd.1 bg_ok i (Ch.2 hi);simp only [Ah,Am,Bd] at h;exact ⟨h.1,h.2.1,h.2.2⟩
theorem qM0 (h : List Ob) (i : Nat) : zX h (i : Nat) = h.getD i ob0 := by
 show h.getD ((i : Nat) : Int).toNat ob0 = _;rw [Aw]
theorem kH {h : List Ob} {n : Int} (hn : yO h n = true) : 0 ≤ n ∧ n < (h.length : Int) := by
 have := zU0 hn;omega
theorem bN0 {h : List Ob} (g : Uh h) (hh : HpIn h) {i : Nat} (hi : i < h.length) : ObC h.length (zX h i) := by
 have hin := hh.at (i : Nat);have hlo := g.lo;by_cases h49 : i < 49
 ·have e := g.lo_at h49;have hb := gD0 h49;rw [e] at hin ⊢;exact ⟨hin,fun hk => absurd hk (by show ¬ (9 : Int) = 18;decide),fun hk => absurd hk (by show ¬ ((9 : Int) = 10 ∨ (9 : Int) = 7);decide),fun n hn => by have := hb.2.1 n hn;omega,fun n hn => by have := hb.2.2 n hn;omega,(fun v hv => by cases hv),(fun v hv => by cases hv)⟩
 ·have u := g.hi_at (by omega) hi;have v := yY0 u.vals;refine ⟨hin,fun hk => ?_,fun _ => (kH v.cls).2,fun n hn => kH (v.refs n hn),fun n hn => kH (v.order n hn),fun x hx => ⟨hin.kv x hx,fun hk => (kH (v.vals x (Ax.2 (.inl hx)) hk)).2⟩,fun x hx => ⟨hin.iv x hx,fun hk => (kH (v.vals x (Ax.2 (.inr hx)) hk)).2⟩⟩;have hst := (tS u.shape).2.2.1;by_cases h0 : (zX h i).state = 0
  ·omega
  ·have h1 := v.weak hk h0;rw [yV0 (by omega) hin.st.2] at h1;exact (kH h1).2
theorem mem_obAt {h : List Ob} {o : Ob} (ho : o ∈ h) : ∃ i,i < h.length ∧ o = zX h (i : Nat) := by
 obtain ⟨i,hi,e⟩ := List.getElem_of_mem ho;exact ⟨i,hi,by rw [qM0,Ai,Ac hi,← e];rfl⟩
theorem uh_hpC {h : List Ob} (g : Uh h) (hh : HpIn h) : HpC h := fun o ho => by
 obtain ⟨i,hi,rfl⟩ := mem_obAt ho;exact bN0 g hh hi
theorem dH0 (h : List Ob) : cH h = (h.map cO).sum := pI cO ob0 h
theorem pr_sums {h : List Ob} (hp : (qR h).1 = 0) : sumN (nodN h) h.length ≤ 20000 ∧ sumN (bytN h) h.length ≤ 200000 := by
 have g := cK0 hp;unfold qR at hp;rw [Aa (by have := g.hi;omega),Aa (by have := g.lo;omega)] at hp;have hn : (List.range h.length).find? (fun i => !decide (wT h i = 0)) = none := by
  rw [List.find?_range_eq_none];intro i hi;simp [g.code i hi]
 rw [hn] at hp
 dsimp only at hp
 split at hp
 ·cases hp
 ·omega
theorem kW0 {f a b : Nat → Nat} {c : Nat} : ∀ {n : Nat},(∀ i,i < n → f i ≤ c + 2108 * a i + 10 * b i) → ((List.range n).map f).sum ≤ c * n + 2108 * ((List.range n).map a).sum + 10 * ((List.range n).map b).sum
 | 0,_ => Ap _
 | n + 1,h => by
  have h1 := kW0 (n := n) fun i hi => h i (by omega);have h2 := h n (by omega);rw [List.range_succ,Ad,Df,Ad,Df,Ad,Df,Dl,Dl,Dl,Dm,Dm,Dm,Nat.mul_succ];omega
theorem uh_cost {h : List Ob} (hp : (qR h).1 = 0) : cH h ≤ 80000000 := by
 have g := cK0 hp;have hs := pr_sums hp;rw [gH,gH] at hs;have h1 : cH h ≤ 6704 * h.length + 2108 * ((List.range h.length).map (nodN h)).sum + 10 * ((List.range h.length).map (bytN h)).sum := by
  refine kW0 fun i hi => ?_;rw [← qM0];by_cases h49 : i < 49
  ·have hb := (gD0 h49).1;rw [g.lo_at h49];omega
  ·have hc := cO_hi (g.hi_at (by omega) hi);have e1 : nodN h i = (zX h i).items.length + (zX h i).keys.length + (zX h i).refs.length := Aa (by omega);have e2 : bytN h i = bytO (zX h i) (kvs (zX h i)).length := Aa (by omega);rw [e1,e2,bytO_eq];exact hc
 have := g.hi;omega
theorem cH_app (h : List Ob) (o : Ob) : cH (h ++ [o]) = cH h + cO o := by
 rw [dH0,dH0,Ad,Df,Dl,Dm]
theorem hpC_set {h : List Ob} (hh : HpC h) {r : Nat} {o : Ob} (ho : ObC h.length o) : HpC (h.set r o) := fun x hx => by
 rw [Bp];rcases Dw hx with hx | rfl
 ·exact hh x hx
 ·exact ho
theorem mX0 {n : Int} (h0 : -9223372036854775808 ≤ n) (h1 : n ≤ 9223372036854775807) : VlIn (nuV n) ∧ (nuV n).nl.length ≤ 2 := by
 have hl : (nuV n).nl.length ≤ 2 := lim_length_le (k := 2) (by show n.natAbs < _;omega);exact ⟨⟨(by decide : (-9223372036854775808 : Int) ≤ 2),(by decide : (2 : Int) ≤ 9223372036854775807),(by decide : (-9223372036854775808 : Int) ≤ 0),(by decide : (0 : Int) ≤ 9223372036854775807),lim_Dg _,(fun _ h => by cases h),by omega,(by decide : 0 ≤ 2000000),(by decide : ByteArray.empty.size ≤ 2000000)⟩,hl⟩
theorem mY0 {n : Int} (h0 : -9223372036854775808 ≤ n) (h1 : n ≤ 9223372036854775807) : cV (nuV n) ≤ 76 := by
 have h := (mX0 h0 h1).2;have e : cV (nuV n) = 60 + 10 * 0 + 8 * (nuV n).nl.length + 8 * 0 := rfl;omega
theorem cZ0 {N : Nat} {n : Int} (h0 : -9223372036854775808 ≤ n) (h1 : n ≤ 9223372036854775807) : VlC N (nuV n) := ⟨(mX0 h0 h1).1,fun hk => absurd hk (by show ¬ (2 : Int) = 6;decide)⟩
theorem byV_C {N : Nat} {t : ByteArray} (ht : t.size ≤ 2000000) : VlC N (byV t) := ⟨⟨(by decide : (-9223372036854775808 : Int) ≤ 5),(by decide : (5 : Int) ≤ 9223372036854775807),(by decide : (-9223372036854775808 : Int) ≤ 0),(by decide : (0 : Int) ≤ 9223372036854775807),(fun _ h => by cases h),(fun _ h => by cases h),(by decide : 0 ≤ 2000000),(by decide : 0 ≤ 2000000),ht⟩,fun hk => absurd hk (by show ¬ (5 : Int) = 6;decide)⟩
theorem kI0 (N : Nat) : VlC N vl0 := ⟨vV0,fun hk => absurd hk (by show ¬ (0 : Int) = 6;decide)⟩
theorem qH1 {v : Vl} (h : VlIn v) : cV v ≤ 52000060 := by
 have := h.s;have := h.nn;have := h.dn;unfold cV;omega
structure StC (N : Nat) (s : St) : Prop where
 i : StI s
 t : s.s.size ≤ 2000000
 v : VlC N s.v
 w : VlC N s.w
 l : ∀ x ∈ s.l,VlC N x
 cl : cVs s.l ≤ 300000000
theorem spW_C {N : Nat} {s : St} (h : StC N s) : (∀ x ∈ spW s,VlC N x) ∧ (∀ x ∈ spW s,True) ∧ cVs (spW s) ≤ 450000000 := by
 have h1 := cZ0 (N := N) h.i.k1 h.i.k2;have h2 := cZ0 (N := N) h.i.c1 h.i.c2;have hl := h.i.l;have h3 := cZ0 (N := N) (n := (s.l.length : Nat)) (by omega) (by omega);refine ⟨fun x hx => ?_,fun _ _ => trivial,?_⟩
 ·unfold spW spV at hx;simp only [Be] at hx;rcases hx with rfl | rfl | rfl | rfl | rfl | rfl | hx
  ·exact h3
  ·exact h1
  ·exact h2
  ·exact byV_C h.t
  ·exact h.v
  ·exact h.w
  ·exact h.l x hx
 ·have c1 := mY0 h.i.k1 h.i.k2;have c2 := mY0 h.i.c1 h.i.c2;have c3 := mY0 (n := (s.l.length : Nat)) (by omega) (by omega);have c4 : cV (byV s.s) = 60 + 10 * s.s.size + 8 * 0 + 8 * 0 := rfl;have c5 := qH1 h.v.vin;have c6 := qH1 h.w.vin;have ht := h.t;have c7 := h.cl;unfold cVs at c7 ⊢;unfold spW spV;simp only [Bh,Bu];omega
theorem skc_step {h : List Ob} {s : St} (hc : HpC h) (hn : h.length ≤ 2000000) (hs : StC h.length s) (hq : cH h ≤ 600000000) : Skc h (pvS [s]) := by
 obtain ⟨h1,_,h3⟩ := spW_C hs;have e : pvS [s] = spW s := by simp [pvS]
 have hl := uN0 hs.i;exact ⟨hc,hn,by rw [e];exact h1,by rw [e];omega,by rw [e];omega⟩
theorem sameE_self {h a : List Ob} {l : List St} {s : St} (hl : h.length ≤ a.length) : mJ0 h a l s a l s = true := by
 unfold mJ0;have : (h.length : Int) ≤ (a.length : Int) := by omega
 simp [this]
def Gv (h : List Ob) (v : Vl) : Prop := jJ v = true ∧ VlC h.length v
theorem tN0 {h : List Ob} {v : Vl} (hi : VlIn v) (hh : qQ h v = true) : Gv h v := by
 refine ⟨?_,hi,fun hk => (kH (vC hh hk)).2⟩;simp only [qQ,Ah] at hh;exact hh.1
theorem zU1 {N : Nat} {v : Vl} (hv : VlC N v) : StC N (vlS v) := ⟨⟨(by decide : (-9223372036854775808 : Int) ≤ 0),(by decide : (0 : Int) ≤ 9223372036854775807),(by decide : (-9223372036854775808 : Int) ≤ 0),(by decide : (0 : Int) ≤ 9223372036854775807),(by decide : 0 ≤ 1000000)⟩,(by decide : ByteArray.empty.size ≤ 2000000),hv,kI0 N,(fun _ h => by cases h),(by decide : cVs [] ≤ 300000000)⟩
def gT : ByteArray := ⟨#[110,97,109,101]⟩
def ordB : ByteArray := ⟨#[111,114,100,101,114]⟩
def onR : ByteArray := ⟨#[111,110,95,114,101,97,100]⟩
def onW : ByteArray := ⟨#[111,110,95,119,114,105,116,101]⟩
def onM : ByteArray := ⟨#[111,110,95,109,105,115,115,105,110,103]⟩
def nhB : ByteArray := ⟨#[39,32,104,97,115,32,110,111,32,97,116,116,114,105,98,117,116,101,32,39]⟩
def qB : ByteArray := ⟨#[39]⟩
def cqB : ByteArray := ⟨#[99,108,97,115,115,32,39]⟩
def mqB : ByteArray := ⟨#[109,111,100,117,108,101,32,39]⟩
def atB : ByteArray := ⟨#[97,116,116,114,105,98,117,116,101,32,39]⟩
def cnrB : ByteArray := ⟨#[39,32,99,97,110,110,111,116,32,98,101,32,114,101,97,100]⟩
def suB : ByteArray := ⟨#[115,117,112,101,114,32,104,97,115,32,110,111,32,97,116,116,114,105,98,117,116,101,32,39]⟩
def dotB : ByteArray := ⟨#[46]⟩
theorem kbs (a : Array UInt8) : (⟨a⟩ : ByteArray).size = a.size := rfl
def mtO (f self : Vl) : Ob := ⟨8,ByteArray.empty,0,[],[],[],[f,self],[],0,0⟩
def tuO (l : List Vl) : Ob := ⟨1,ByteArray.empty,0,[],[],[],l,[],0,0⟩
def biV (s : ByteArray) : Vl := ⟨7,false,[],false,[],s,0⟩
def newS (h : List Ob) (o : Ob) : St × List Ob := (vlS (rfV (h.length : Nat)),h ++ [o])
def bdS (h : List Ob) (a v : Vl) (c : Int) (b : Bool) : St × List Ob :=
 if (b && uT h a) = true then newS h (mtO a v)
 else if (zO h a).kind = 13 then (vlS ((zO h a).items.getD 0 vl0),h)
 else if (zO h a).kind = 14 then newS h (mtO ((zO h a).items.getD 0 vl0) (rfV c))
 else if (spS h a onR).2.2 = true then (caS (spS h a onR).1 ((spS h a onR).2.1 ++ [if b = true then v else vl0,rfV c]),h)
 else (vlS a,h)
def whoS (h : List Ob) (v : Vl) : ByteArray := if (zO h v).kind = 9 then cqB ++ (zO h v).name else if (zO h v).kind = 11 then mqB ++ (zO h v).name else qB ++ (zX h (clA h v)).name
def lkS (h : List Ob) (v : Vl) (s : ByteArray) : St := raS 36 (whoS h v ++ nhB ++ s ++ qB)
def gtS (p : Ob) (v : Vl) (s : ByteArray) : St := if (p.items.getD 0 vl0).k = 0 then raS 36 (atB ++ s ++ cnrB) else caS (p.items.getD 0 vl0) [v]
def wiS (h : List Ob) (v : Vl) (s : ByteArray) (a : Vl) (ok : Bool) : St × List Ob :=
 if ok = true ∧ (zO h a).kind = 12 then (gtS (zO h a) v s,h)
 else if ok = true ∧ (spS h a onR).2.2 = true ∧ (spS h a onW).2.2 = true then bdS h a v (zO h v).cls true
 else if ownB (zO h v) s = true then (vlS (ownV (zO h v) s),h)
 else if ok = true then bdS h a v (zO h v).cls true
 else if (spS h v onM).2.2 = true then (caS (spS h v onM).1 ((spS h v onM).2.1 ++ [txV s]),h)
 else (lkS h v s,h)
def clsS (h : List Ob) (v : Vl) (s : ByteArray) : St × List Ob :=
 if s = gT then (vlS (txV (zO h v).name),h)
 else if s = ordB then newS h (tuO ((zO h v).order.map rfV))
 else if (fdO h (zO h v).order s).isSome = true then bdS h (fdV h s (fdO h (zO h v).order s)) vl0 v.r false
 else (lkS h v s,h)
def aftL (o : List Int) (c : Int) : List Int := o.drop (ixI o c + 1).toNat
def suC (h : List Ob) (o : Ob) : Int := if (zO h (o.items.getD 1 vl0)).kind = 10 then (zO h (o.items.getD 1 vl0)).cls else (o.items.getD 1 vl0).r
def suA (h : List Ob) (o : Ob) (s : ByteArray) : Option Int := fdO h (aftL (zX h (suC h o)).order (o.items.getD 0 vl0).r) s
def upS (h : List Ob) (o : Ob) (s : ByteArray) : St × List Ob :=
 if (suA h o s).isSome = false then (raS 36 (suB ++ s ++ qB),h)
 else if ¬ (zO h (o.items.getD 1 vl0)).kind = 10 then bdS h (fdV h s (suA h o s)) (o.items.getD 1 vl0) (suC h o) false
 else if (zO h (fdV h s (suA h o s))).kind = 12 then (gtS (zO h (fdV h s (suA h o s))) (o.items.getD 1 vl0) s,h)
 else bdS h (fdV h s (suA h o s)) (o.items.getD 1 vl0) (suC h o) true
def biS (h : List Ob) (v : Vl) (s : ByteArray) : St × List Ob :=
 if s = gT ∧ (jR h v).2 = true then (vlS (txV (jR h v).1),h)
 else if jF (mtL (clA h v)) s = true then newS h (mtO (biV ((zX h (clA h v)).name ++ dotB ++ s)) v)
 else (lkS h v s,h)
def jQ (h : List Ob) (v : Vl) (s : ByteArray) : St × List Ob :=
 if (zO h v).kind = 10 then wiS h v s (fdV h s (fdO h (zX h (zO h v).cls).order s)) (fdO h (zX h (zO h v).cls).order s).isSome
 else if (zO h v).kind = 9 then clsS h v s
 else if (zO h v).kind = 11 then (if ownB (zO h v) s = true then (vlS (ownV (zO h v) s),h) else (lkS h v s,h))
 else if (zO h v).kind = 15 then upS h (zO h v) s
 else biS h v s
def Gc (h : List Ob) (v : Vl) : Prop := VlC h.length v ∧ cV v ≤ 43000
theorem gc_0 (h : List Ob) : Gc h vl0 := ⟨kI0 _,by show 60 ≤ 43000;omega⟩
theorem yZ1 {h : List Ob} {v : Vl} (hv : Gv h v) : Gc h v := ⟨hv.2,by
 have h1 := kH0 hv.1;have h2 := (uE0 hv.1).2.2;omega⟩
theorem gc_items {h : List Ob} (g : Uh h) (hh : HpIn h) {n : Int} (hn : inH h n) : ∀ x ∈ (zX h n).items,Gc h x := fun x hx => by
 have hC := bN0 g hh (i := n.toNat) hn.2;rw [← uB hn] at hC;refine ⟨hC.items x hx,?_⟩;by_cases h49 : n.toNat < 49
 ·rw [show zX h n = bgO n.toNat from g.lo_at h49] at hx
  cases hx
 ·have u := g.hi_at (by omega) hn.2;rw [← uB hn] at u;have hok := (yY0 u.vals).ok x (Ax.2 (.inr hx));have e := pP0 (zX h n) x;have h1 := kH0 hok;have h2 := (uE0 hok).2.2;rw [e.1,e.2] at h1;rw [e.2] at h2;omega
theorem vD {h : List Ob} {l : List Vl} (hl : ∀ x ∈ l,Gc h x) (k : Nat) : Gc h (l.getD k vl0) := by
 rw [Ai]
 cases hq : l[k]? with
 | none => exact gc_0 h
 | some v => exact hl v (Bb hq)
theorem pK0 {h : List Ob} {o : Ob} (hl : ∀ x ∈ o.items,Gc h x) (s : ByteArray) : Gc h (ownV o s) := by
 unfold ownV;split
 ·exact gc_0 h
 ·exact vD hl _
theorem jF0 {h : List Ob} {n : Int} (hn : inH h n) (hl : h.length ≤ 5000000) : Gc h (rfV n) := by
 obtain ⟨m,rfl⟩ : ∃ m : Nat,n = (m : Nat) := ⟨n.toNat,by have := hn.1;omega⟩;have h2 : m < h.length := by have := hn.2;simpa using this
 exact ⟨⟨⟨(by decide : (-9223372036854775808 : Int) ≤ 6),(by decide : (6 : Int) ≤ 9223372036854775807),(by show -9223372036854775808 ≤ (m : Int);omega),(by show (m : Int) ≤ 9223372036854775807;omega),(fun _ h => by cases h),(fun _ h => by cases h),(by decide : 0 ≤ 2000000),(by decide : 0 ≤ 2000000),(by decide : ByteArray.empty.size ≤ 2000000)⟩,fun _ => by show (m : Int) < h.length;omega⟩,by show 60 ≤ 43000;omega⟩
theorem cC0 {h : List Ob} {l : List Vl} (hl : ∀ x ∈ l,Gc h x) : cVs l ≤ 43000 * l.length + 1 := by
 induction l with
 | nil => exact Ar _
 | cons v l ih =>
  have h1 := (hl v Ay).2;have h2 := ih fun x hx => hl x (Az _ hx);unfold cVs at h2 ⊢;rw [Bh,Bu,Ak,Nat.mul_succ];omega
theorem tX {h : List Ob} {v : Vl} (hv : VlC h.length v) : StC h.length (vlS v) := zU1 hv
theorem kZ0 {h : List Ob} {f : Vl} {l : List Vl} (hf : Gc h f) (hl : ∀ x ∈ l,Gc h x) (h9 : l.length ≤ 1000) : StC h.length (caS f l) := by
 have hc := cC0 hl;exact ⟨⟨(by decide : (-9223372036854775808 : Int) ≤ 2),(by decide : (2 : Int) ≤ 9223372036854775807),(by decide : (-9223372036854775808 : Int) ≤ 0),(by decide : (0 : Int) ≤ 9223372036854775807),(by show l.length ≤ 1000000;omega)⟩,(by show ByteArray.empty.size ≤ 2000000;decide),kI0 _,hf.1,fun x hx => (hl x hx).1,by
  show cVs l ≤ 300000000;have : 43000 * l.length ≤ 43000 * 1000 := Do _ h9;omega⟩
theorem kY0 {N : Nat} {s : ByteArray} (hs : s.size ≤ 2000000) : StC N (raS 36 s) := ⟨⟨(by decide : (-9223372036854775808 : Int) ≤ 1),(by decide : (1 : Int) ≤ 9223372036854775807),(by decide : (-9223372036854775808 : Int) ≤ 36),(by decide : (36 : Int) ≤ 9223372036854775807),(by decide : 0 ≤ 1000000)⟩,hs,kI0 N,kI0 N,(fun _ h => by cases h),(by decide : 1 ≤ 300000000)⟩
section
variable {h : List Ob} (g : Uh h) (hh : HpIn h) (hp : (qR h).1 = 0)
include g hh hp
omit g hh hp in
theorem pD0 {k : Int} {l : List Vl} (hk : k = 8 ∨ k = 1) (hl : ∀ x ∈ l,Gc h x) (h9 : l.length ≤ 1000) : ObC (h.length + 1) ⟨k,ByteArray.empty,0,[],[],[],l,[],0,0⟩ ∧ cO ⟨k,ByteArray.empty,0,[],[],[],l,[],0,0⟩ ≤ 100000000 := by
 have hc := cC0 hl;refine ⟨⟨⟨by show _ ≤ k ∧ k ≤ _;omega,(by decide : (-9223372036854775808 : Int) ≤ 0 ∧ (0 : Int) ≤ 9223372036854775807),(by decide : (-9223372036854775808 : Int) ≤ 0 ∧ (0 : Int) ≤ 9223372036854775807),(by decide : (-9223372036854775808 : Int) ≤ 0 ∧ (0 : Int) ≤ 9223372036854775807),(by decide : ByteArray.empty.size ≤ 2000000),(by decide : 0 ≤ 2000000),(by decide : 0 ≤ 2000000),(by decide : 0 ≤ 2000000),(by show l.length ≤ 2000000;omega),(by decide : 0 ≤ 2000000),(fun _ h => by cases h),(fun v hv => (hl v hv).1.vin),(fun _ h => by cases h)⟩,fun h18 => by have h18 : k = 18 := h18;omega,fun h10 => by have h10 : k = 10 ∨ k = 7 := h10;omega,(fun _ h => by cases h),(fun _ h => by cases h),(fun _ h => by cases h),fun v hv => ⟨(hl v hv).1.vin,fun h6 => by have := (hl v hv).1.r h6;omega⟩⟩,?_⟩;have e : cO ⟨k,ByteArray.empty,0,[],[],[],l,[],0,0⟩ = 120 + 10 * 0 + 0 + 23 * 0 + 23 * 0 + 1 + cVs l := rfl;have : 43000 * l.length ≤ 43000 * 1000 := Do _ h9;omega
end
theorem nm_sz {h : List Ob} (g : Uh h) {n : Int} (hn : inH h n) : (zX h n).name.size ≤ 700 := by
 by_cases h49 : n.toNat < 49
 ·rw [show zX h n = bgO n.toNat from g.lo_at h49];have h1 := (gD0 h49).1;have h2 : cO (bgO n.toNat) = 120 + 10 * (bgO n.toNat).name.size + ((bgO n.toNat).names.map fun s => s.size + 1).sum + 23 * (bgO n.toNat).refs.length + 23 * (bgO n.toNat).order.length + cVs (bgO n.toNat).keys + cVs (bgO n.toNat).items := rfl;omega
 ·have u := g.hi_at (i := n.toNat) (by omega) hn.2;rw [← uB hn] at u;have := qR0 u.shape u.sizes;omega
theorem tx_C {N : Nat} {s : ByteArray} (hs : s.size ≤ 2000000) : VlC N (txV s) := ⟨⟨(by decide : (-9223372036854775808 : Int) ≤ 4),(by decide : (4 : Int) ≤ 9223372036854775807),(by decide : (-9223372036854775808 : Int) ≤ 0),(by decide : (0 : Int) ≤ 9223372036854775807),(fun _ h => by cases h),(fun _ h => by cases h),(by decide : 0 ≤ 2000000),(by decide : 0 ≤ 2000000),hs⟩,fun hk => absurd hk (by show ¬ (4 : Int) = 6;decide)⟩
theorem su_links {h : List Ob} (g : Uh h) {v : Vl} (hk : (zO h v).kind = 15) : (zO h v).items.length = 2 ∧ inH h (suC h (zO h v)) ∧ jF (zX h (suC h (zO h v))).order ((zO h v).items.getD 0 vl0).r = true ∧ ((zO h ((zO h v).items.getD 1 vl0)).kind = 10 ∨ (zO h ((zO h v).items.getD 1 vl0)).kind = 9) := by
 obtain ⟨h6,ho,e⟩ := qD (h := h) (v := v) (by omega);have hin := yJ ho;unfold suC;rw [e] at hk ⊢;by_cases h49 : v.r.toNat < 49
 ·rw [show zX h v.r = bgO v.r.toNat from g.lo_at h49] at hk;have h9 : (bgO v.r.toNat).kind = 9 := rfl;omega
 ·have u := g.hi_at (i := v.r.toNat) (by omega) hin.2;rw [← uB hin] at u;have hs := (tS u.shape).1;rw [qG1 hk] at hs;have hl := u.links;rw [qY,Aa (by omega),Aa (by omega),Aa (by omega),Aa (by omega),Aa (by omega),Aa (by omega),Ab hk] at hl;have e0 : itm (zX h v.r) 0 = (zX h v.r).items.getD 0 vl0 := rfl;have e1 : itm (zX h v.r) 1 = (zX h v.r).items.getD 1 vl0 := rfl;rw [e1] at hl;refine ⟨by omega,?_⟩;by_cases h10 : (zO h ((zX h v.r).items.getD 1 vl0)).kind = 10
  ·rw [Ab h10] at hl ⊢;simp only [supT,Ah] at hl;exact ⟨yJ hl.1.2,hl.2,.inl h10⟩
  ·rw [Aa h10] at hl ⊢;by_cases h9 : (zO h ((zX h v.r).items.getD 1 vl0)).kind = 9
   ·rw [Ab h9] at hl;simp only [supT,Ah] at hl;exact ⟨yJ hl.1.2,hl.2,.inr h9⟩
   ·rw [Aa h9] at hl
    cases hl
section
variable {h : List Ob} (g : Uh h) (hh : HpIn h) (hp : (qR h).1 = 0)
include g hh hp
end
variable {md me : Bool}
def argN : ByteArray := ⟨#[97,114,103,115]⟩
def wB : ByteArray := ⟨#[99,97,117,115,101]⟩
def ctxN : ByteArray := ⟨#[99,111,110,116,101,120,116]⟩
def vX : ByteArray := ⟨#[116,114,97,99,101]⟩
def bM : ByteArray := ⟨#[109,101,109,98,101,114,115]⟩
def nwaB : ByteArray := ⟨#[39,32,104,97,115,32,110,111,32,119,114,105,116,97,98,108,101,32,97,116,116,114,105,98,117,116,101,115]⟩
def cnwB : ByteArray := ⟨#[39,32,99,97,110,110,111,116,32,98,101,32,119,114,105,116,116,101,110]⟩
def cndB : ByteArray := ⟨#[39,32,99,97,110,110,111,116,32,98,101,32,100,101,108,101,116,101,100]⟩
def onWr : ByteArray := ⟨#[111,110,95,119,114,105,116,101]⟩
def wokS (h : List Ob) (v : Vl) : Bool := decide ((zO h v).kind = 10) || decide ((zO h v).kind = 11) || (decide ((zO h v).kind = 9) && !decide (v.r < 49))
def fixS (h : List Ob) (v : Vl) (s : ByteArray) : Bool :=
 if (zO h v).kind = 9 then decide (s = gT) || decide (s = ordB)
 else if (zO h v).kind = 10 then (if s = argN ∨ s = wB ∨ s = ctxN ∨ s = vX then jF (zX h (zO h v).cls).order 28 else if s = bM then jF (zX h (zO h v).cls).order 48 else false)
 else false
def chO (h : List Ob) (v : Vl) (s : ByteArray) : Option Int := fdO h (zX h (zO h v).cls).order s
def chV (h : List Ob) (v : Vl) (s : ByteArray) : Vl := fdV h s (chO h v s)
def chF (h : List Ob) (v : Vl) (s : ByteArray) (bar : ByteArray) (fin : St × List Ob) : St × List Ob := if fixS h v s = true then (raS 36 (atB ++ s ++ bar),h) else fin
def chS (h : List Ob) (v : Vl) (s : ByteArray) (k : Nat) (bar hook : ByteArray) (args : List Vl) (fin : St × List Ob) : St × List Ob :=
 if wokS h v = false then (raS 36 (qB ++ (zX h (clA h v)).name ++ nwaB),h)
 else if (zO h v).kind = 10 ∧ (chO h v s).isSome = true ∧ (zO h (chV h v s)).kind = 12 ∧ ((zO h (chV h v s)).items.getD k vl0).k = 0 then (raS 36 (atB ++ s ++ bar),h)
 else if (zO h v).kind = 10 ∧ (chO h v s).isSome = true ∧ (zO h (chV h v s)).kind = 12 then (caS ((zO h (chV h v s)).items.getD k vl0) args,h)
 else if (zO h v).kind = 10 ∧ (chO h v s).isSome = true ∧ (spS h (chV h v s) hook).2.2 = true then (caS (spS h (chV h v s) hook).1 ((spS h (chV h v s) hook).2.1 ++ args),h)
 else chF h v s bar fin
def uU (o : Ob) : Ob := if o.kind = 9 then { o with state := o.state + 1 } else o
def qE (o : Ob) (s : ByteArray) (w : Vl) : Ob := if ixI o.names s < 0 then { o with names := o.names ++ [s],items := o.items ++ [w] } else { o with items := o.items.set (ixI o.names s).toNat w }
def setF (h : List Ob) (v : Vl) (s : ByteArray) (w : Vl) : St × List Ob := if ixI (zO h v).names s < 0 ∧ 200 ≤ (zO h v).names.length then (raS 42 tooB,h) else (vlS vl0,h.set v.r.toNat (uU (qE (zO h v) s w)))
def setS (h : List Ob) (v : Vl) (s : ByteArray) (w : Vl) : St × List Ob := chS h v s 1 cnwB onWr [v,w] (setF h v s w)
structure Wr (h : List Ob) (v : Vl) : Prop where
 k6 : v.k = 6
 ob : yO h v.r = true
 inr : inH h v.r
 eo : zO h v = zX h v.r
 hi : 49 ≤ v.r.toNat
 nl : (zO h v).names.length ≤ 200
 il : (zO h v).items.length ≤ 1000
 ni : (zO h v).names.length = (zO h v).items.length
 st : 0 ≤ (zO h v).state ∧ (zO h v).state ≤ 1099511627776
theorem wr_of {h : List Ob} (g : Uh h) {v : Vl} (hw : wokS h v = true) : Wr h v := by
 unfold wokS at hw;simp only [Bz,Ah,Am,Bc,At] at hw;obtain ⟨h6,ho,e⟩ := qD (h := h) (v := v) (by omega);have hin := yJ ho;have h49 : ¬ v.r.toNat < 49 := fun hl => by
  have hb : (zO h v).kind = 9 := by rw [e,show zX h v.r = bgO v.r.toNat from g.lo_at hl];rfl
  have hin1 := hin.1;omega
 have u := g.hi_at (i := v.r.toNat) (by omega) hin.2;rw [← uB hin] at u;have hz := wG0 u.sizes;have hs := tS u.shape;rw [e] at hw;refine ⟨h6,ho,hin,e,by omega,by rw [e];exact hz.1,by rw [e];exact hz.2.1,?_,?_⟩
 ·have h1 := hs.1;unfold cntS at h1;rw [e];rcases hw with (hk | hk) | hk
  ·rw [hk,Aa (by decide +kernel),Aa (by decide +kernel),Ab (by decide +kernel)] at h1;omega
  ·rw [hk,Aa (by decide +kernel),Aa (by decide +kernel),Ab (by decide +kernel)] at h1;omega
  ·rw [hk.1,Aa (by decide +kernel),Aa (by decide +kernel),Ab (by decide +kernel)] at h1;omega
 ·rw [e];refine ⟨hs.2.2.1,Int.le_trans hs.2.2.2.1 ?_⟩;unfold xW;repeat' split
  all_goals first | decide | omega
variable {md me : Bool}
theorem qO (v : Vl) : Fn Tryz.prog 39 [.agg (vlD v)] (.agg (stD (vlS v))) := by
 refine yL zJ Tryz.func39 rfl rfl rfl rfl rfl rfl ?_;intro w0 s0 mx;refine zL 100 ?_;refine zL 200 ?_;refine zK ?_;exact FinV.ret rfl (SubP.agg (by repeat (first | exact trivial | exact SubP.refl _ | exact SubP.nilSl rfl | refine ⟨?_,?_⟩)))
theorem cT (c : Int) (s : ByteArray) : Fn Tryz.prog 50 [.v (.int .i64 c),.v (.string s)] (.agg (stD (raS c s))) := by
 refine yL zJ Tryz.func50 rfl rfl rfl rfl rfl rfl ?_;intro w0 s0 mx;refine zL 100 ?_;refine zL 200 ?_;refine zK ?_;exact FinV.ret rfl (SubP.agg (by repeat (first | exact trivial | exact SubP.refl _ | exact SubP.nilSl rfl | refine ⟨?_,?_⟩)))
theorem jD (s : ByteArray) : Fn Tryz.prog 40 [.v (.string s)] (.agg (stD (raS 36 s))) := by
 refine yL zJ Tryz.func40 rfl rfl rfl rfl rfl rfl ?_;intro w0 s0 mx;refine zL 100 ?_;refine zB (zE zJ [] 200 rfl ?_);refine zF ?_;refine zT _ (cT _ _) rfl ?_;refine zF ?_;refine zC (zA (zK ?_));exact FinV.ret rfl (SubP.refl _)
theorem tE (f : Vl) (l : List Vl) : Fn Tryz.prog 46 [.agg (vlD f),vsD l] (.agg (stD (caS f l))) := by
 refine yL zJ Tryz.func46 rfl rfl rfl rfl rfl rfl ?_;intro w0 s0 mx;refine zL 100 ?_;refine zL 200 ?_;refine zK ?_;exact FinV.ret rfl (SubP.agg (by repeat (first | exact trivial | exact SubP.refl _ | exact SubP.nilSl rfl | refine ⟨?_,?_⟩)))
def vqD (k : Vl) : D := .pt true (vlD k)
def fxI (p : ByteArray → Bool) : List ByteArray → Int
 | [] => -1
 | x :: l => if p x = true then 0 else if fxI p l < 0 then -1 else fxI p l + 1
theorem pL0 {p : ByteArray → Bool} : ∀ {l : List ByteArray},(∀ x ∈ l,p x = false) → fxI p l = -1
 | [],_ => rfl
 | x :: l,h => by
  rw [fxI,Aa (by rw [h x Ay];decide),pL0 fun y hy => h y (Az _ hy),Ab (by decide)]
theorem qB1 {p : ByteArray → Bool} : ∀ {l : List ByteArray} {k : Nat},(∀ j x,j < k → l[j]? = some x → (!p x) = true) → ∀ {y : ByteArray},l[k]? = some y → p y = true → fxI p l = k
 | [],_,_,_,h,_ => by simp at h
 | x :: l,0,_,y,h,hp => by
  simp at h;subst h;rw [fxI,Ab hp];rfl
 | x :: l,k + 1,hn,y,h,hp => by
  have h0 := hn 0 x (by omega) rfl;have := qB1 (l := l) (k := k) (fun j z hj hz => hn (j + 1) z (by omega) (by simpa using hz)) (by simpa using h) hp;rw [fxI,Aa (by intro e;rw [e] at h0;cases h0),this,Aa (by omega)]
  push_cast;rfl
theorem tQ0 (p : ByteArray → Bool) : ∀ l : List ByteArray,decide (0 ≤ fxI p l) = l.any p
 | [] => rfl
 | x :: l => by
  have ih := tQ0 p l;rw [fxI,List.any_cons,← ih]
  cases hp : p x with
  | true => rw [Ab rfl];rfl
  | false =>
   rw [Aa (by decide),Bool.false_or];split
   ·rename_i h;rw [Br (by omega),Br (by omega)]
   ·rename_i h;rw [Bg (by omega),Bg (by omega)]
theorem any_all {α : Type} (p : α → Bool) (l : List α) : (!(l.any fun x => !p x)) = l.all p := by
 induction l with
 | nil => rfl
 | cons x l ih => rw [List.any_cons,List.all_cons,← ih];cases p x <;> simp
theorem IndexFuncS_ok (h : List Ob) (v : Vl) (l : List ByteArray) (p : ByteArray → Bool) (f : FuncId) (H : ∀ x ∈ l,Fn Tryz.prog f [.v (.string x),cpD md h,vqD v] (.v (.bool (p x)))) : Fn Tryz.prog 159 [.sl me 1 l sD ByteArray.empty,.clo f [cpD md h,vqD v]] (.v (.int .i64 (fxI p l))) := by
 refine yL zJ Tryz.func159 rfl rfl rfl rfl rfl rfl ?_;intro w0 s0 mx;refine wQ 0 rfl fun hl0 => ?_;refine zL 100 ?_;refine zB (zL 200 ?_);refine zR ?_;refine yC (ι := Al l (fun x => !p x)) [0,1,7] [] 250 (fun x => [(8,.v (.int .i64 x.k))]) (fun _ => []) (fun x => l.length - x.k) ⟨0,Ap _,fun j x hj => by omega⟩ ?_;refine ⟨⟨yG,yD,rfl,rfl⟩,fun x => ?_⟩;have hk := x.le;refine zL 300 ?_;refine zB (zS rfl (fun c2 => ?_) (fun c2 => ?_))
 ·have c2 : x.k < l.length := by simpa using c2
  refine zN (zA (zB (zR (zL 400 ?_))));refine zB (zE zJ [] 500 rfl ?_);refine zF ?_;refine zT _ (H _ (by rw [gX c2];exact Ca _)) rfl ?_;refine zF ?_;refine zC (zA (zS rfl (fun c4 => ?_) (fun c4 => ?_)))
  ·
   refine zL 600 ?_;refine zK (zQ (zM (yU (zQ (zM ?_)))));exact FinV.ret rfl (SubP.int (qB1 x.all (jD0 c2 ByteArray.empty) c4).symm)
  ·
   refine zN (zP (zA (yT zJ [] 700 ?_)));exact zV (x.next (e := ByteArray.empty) c2 (by rw [c4];rfl)) ⟨yG,yD,rfl,rfl⟩ (by show l.length - (x.k + 1) < l.length - x.k;omega)
 ·have c2 : ¬ x.k < l.length := by simpa using c2
  refine yF (yA (yB (zY (zA (zL 800 ?_)))));refine zK ?_;exact FinV.ret rfl (SubP.int (pL0 (fun y hy => by
    have := Bd.1 (x.yes c2) y hy;simpa using this)).symm)
theorem ContainsFuncS_ok (h : List Ob) (v : Vl) (l : List ByteArray) (p : ByteArray → Bool) (f : FuncId) (H : ∀ x ∈ l,Fn Tryz.prog f [.v (.string x),cpD md h,vqD v] (.v (.bool (p x)))) : Fn Tryz.prog 136 [.sl me 1 l sD ByteArray.empty,.clo f [cpD md h,vqD v]] (.v (.bool (l.any p))) := by
 refine yL zJ Tryz.func136 rfl rfl rfl rfl rfl rfl ?_;intro w0 s0 mx;refine zL 100 ?_;refine zB (zE zJ [] 200 rfl ?_);refine zF ?_;refine zT _ (IndexFuncS_ok h v l p f H) rfl ?_;refine zF ?_;refine zC (zA (zK ?_));exact FinV.ret rfl (SubP.bool (tQ0 p l))
def cnQ (q : ByteArray → Bool) (l : List ByteArray) (k : Nat) : Nat := ((l.take k).filter q).length
theorem cn_yes {q : ByteArray → Bool} {l : List ByteArray} {k : Nat} (hk : k < l.length) (h : q (l.getD ((k : Nat) : Int).toNat ByteArray.empty) = true) : cnQ q l (k + 1) = cnQ q l k + 1 := by
 unfold cnQ;rw [yZ hk ByteArray.empty,List.filter_append,Ae,Dv,Ab h];rfl
theorem cn_no {q : ByteArray → Bool} {l : List ByteArray} {k : Nat} (hk : k < l.length) (h : q (l.getD ((k : Nat) : Int).toNat ByteArray.empty) = false) : cnQ q l (k + 1) = cnQ q l k := by
 unfold cnQ;rw [yZ hk ByteArray.empty,List.filter_append,Ae,Dv,Aa (by rw [h];decide)];rfl
theorem cn_le (q : ByteArray → Bool) (l : List ByteArray) (k : Nat) : cnQ q l k ≤ k := by
 unfold cnQ;exact Bq (List.length_filter_le _ _) (by rw [Au];omega)
theorem cn_all (q : ByteArray → Bool) (l : List ByteArray) : decide (((cnQ q l l.length : Nat) : Int) = (l.length : Nat)) = l.all q := by
 unfold cnQ;rw [List.take_length];by_cases h : ∀ x ∈ l,q x = true
 ·rw [List.filter_eq_self.2 h,Bg rfl,Bd.2 h]
 ·have h1 : ¬ (l.filter q).length = l.length := fun e => h (List.filter_eq_self.1 (List.Sublist.eq_of_length List.filter_sublist e));rw [Br (by omega),Bool.eq_false_iff.2 (fun e => h (Bd.1 e))]
theorem mt_in {f w : Vl} (hf : VlIn f) (hw : VlIn w) : ObIn (mtO f w) :=
 ⟨(by decide : (-9223372036854775808 : Int) ≤ 8 ∧ (8 : Int) ≤ 9223372036854775807),(by decide : (-9223372036854775808 : Int) ≤ 0 ∧ (0 : Int) ≤ 9223372036854775807),(by decide : (-9223372036854775808 : Int) ≤ 0 ∧ (0 : Int) ≤ 9223372036854775807),(by decide : (-9223372036854775808 : Int) ≤ 0 ∧ (0 : Int) ≤ 9223372036854775807),(by decide : ByteArray.empty.size ≤ 2000000),(by decide : 0 ≤ 2000000),(by decide : 0 ≤ 2000000),(by decide : 0 ≤ 2000000),(by show 2 ≤ 2000000;decide),(by decide : 0 ≤ 2000000),(fun _ h => by cases h),(fun v hv => by
  have hv : v ∈ [f,w] := hv;simp only [Be,Du,or_false] at hv;rcases hv with rfl | rfl
  ·exact hf
  ·exact hw),(fun _ h => by cases h)⟩
theorem gY : qB.size = 1 ∧ nhB.size = 20 ∧ cqB.size = 7 ∧ mqB.size = 8 ∧ atB.size = 11 ∧ cnrB.size = 16 ∧ suB.size = 24 ∧ dotB.size = 1 := by decide
theorem gT0 {P : Program} {K : DS → Prop} {p : Prop} {r : Out} (hr : r.sat P K) (hp : p := by first | exact ⟨by decide,hp⟩ | exact ⟨rfl,hp⟩ | (simp only [Av,kbs,Bi,Ak,Aq];omega) | (show _ ≤ 9223372036854775807;simp only [Av,atB,cnrB] at *;omega) | exact Dz) : (Out.need p r).sat P K := ⟨hp,hr⟩
theorem jC0 (p : Ob) (v : Vl) (s : ByteArray) (hp : 0 < p.items.length) (hs : s.size ≤ 2000000) : Fn Tryz.prog 96 [.agg (obD p),.agg (vlD v),.v (.string s)] (.agg (stD (gtS p v s))) := by
 have hz := gY;refine yL zJ Tryz.func96 rfl rfl rfl rfl rfl rfl ?_;intro w0 s0 mx;refine zB (zE zJ [] 100 rfl ?_);repeat (first | refine zG ?_ | refine zH ?_ | refine gT0 ?_)
 refine zC (zA (zB ?_));refine zB (zE zJ [] 200 rfl ?_);repeat (first | refine zG ?_ | refine zH ?_ | refine gT0 ?_)
 refine zC (zA (zS rfl (fun c1 => ?_) (fun c1 => ?_)))
 ·have c1w : (p.items.getD 0 vl0).k = 0 := by simpa using c1
  refine zB (zE zJ [] 300 rfl ?_);repeat (first | refine zG ?_ | refine zH ?_ | refine gT0 ?_)
  refine zT _ (jD _) rfl ?_;repeat (first | refine zG ?_ | refine zH ?_ | refine gT0 ?_)
  refine zC (zA (zK (zM ?_)));rw [show gtS p v s = _ from Ab c1w];exact FinV.ret rfl (SubP.refl _)
 ·have c1w : ¬ (p.items.getD 0 vl0).k = 0 := by simpa using c1
  refine zN (zA ?_);refine zB (zU zJ [] mK12 400 yP (by kernel_rfl) rfl ?_);repeat (first | refine zG ?_ | refine zH ?_ | refine gT0 ?_)
  refine zT _ ((tE _ [v]).args ⟨SubP.refl _,SubP.slrSl rfl,trivial⟩) rfl ?_;repeat (first | refine zG ?_ | refine zH ?_ | refine gT0 ?_)
  refine zC (zA (zK ?_));rw [show gtS p v s = _ from Aa c1w];exact FinV.ret rfl (SubP.refl _)
theorem wU (h : List Ob) (f w : Vl) (hh : h.length ≤ 3000000) (hf : VlIn f) (hw : VlIn w) : FnG Tryz.prog 100 [.bp 0 0,.agg (vlD f),.agg (vlD w)] (hpO h) (.agg (stD (newS h (mtO f w)).1)) (hpO (newS h (mtO f w)).2) := by
 refine qS zJ Tryz.func100 rfl rfl rfl rfl rfl rfl rfl ?_;intro w0 s0 mx;refine zL 100 ?_;refine zB (zE zJ [1012] 200 rfl ?_);refine zF ?_;refine yK _ _ ((jB0 h (mtO f w) (by omega) (mt_in hf hw)).args ⟨Sub.refl _,Sub.ofP (SubP.agg ⟨SubP.refl _,SubP.refl _,SubP.refl _,SubP.nilSl rfl,SubP.nilSl rfl,SubP.nilSl rfl,SubP.slrSl rfl,SubP.nilSl rfl,SubP.refl _,SubP.refl _,trivial⟩) rfl rfl,trivial⟩) rfl ?_;refine zF ?_;refine zT _ (jW _) rfl ?_;refine zF ?_;refine zT _ (qO _) rfl ?_;refine zF ?_;refine zC (zA (zK ?_));exact FinH.ret 2 rfl rfl (Sub.ofP (SubP.agg (SubPs.refl _)) rfl rfl) ⟨⟨rfl,Sub.mo rfl,rfl,trivial⟩,SubO.mp rfl,trivial⟩
theorem cS0 {P : Program} {K : DS → Prop} {p : Prop} {r : Out} (hr : r.sat P K) (hp : p := by first | (simp only [Av,kbs,Bi,Ak,Aq];omega) | exact Dz) : (Out.need p r).sat P K := ⟨hp,hr⟩
theorem mO (s t : ByteArray) (hs : s.size ≤ 2000000) (ht : t.size ≤ 2000000) : Fn Tryz.prog 75 [.v (.string s),.v (.string t)] (.agg (stD (raS 36 (atB ++ s ++ ⟨#[39,32,99,97,110,110,111,116,32,98,101,32]⟩ ++ t)))) := by
 have hz := gY;have hz2 : (⟨#[39,32,99,97,110,110,111,116,32,98,101,32]⟩ : ByteArray).size = 12 := by decide
 refine yL zJ Tryz.func75 rfl rfl rfl rfl rfl rfl ?_;intro w0 s0 mx;refine zB (zE zJ [] 100 rfl ?_);repeat (first | refine zG ?_ | refine zH ?_ | refine cS0 ?_)
 refine zC (zA ?_);refine zB (zE zJ [] 200 rfl ?_);repeat (first | refine zG ?_ | refine zH ?_ | refine cS0 ?_)
 refine zT _ (wE _ _) rfl ?_;repeat (first | refine zG ?_ | refine zH ?_ | refine cS0 ?_)
 refine zC (zA (zK ?_));exact FinV.ret rfl (SubP.refl _)
variable {md me : Bool}
variable {md me : Bool}
theorem prop_item {h : List Ob} (g : Uh h) {a : Vl} (hk : (zO h a).kind = 12) : (zO h a).items.length = 3 := by
 obtain ⟨h6,ho,e⟩ := qD (h := h) (v := a) (by omega);have hin := yJ ho;rw [e] at hk ⊢;by_cases h49 : a.r.toNat < 49
 ·rw [show zX h a.r = bgO a.r.toNat from g.lo_at h49] at hk;have h9 : (bgO a.r.toNat).kind = 9 := rfl;omega
 ·have u := g.hi_at (i := a.r.toNat) (by omega) hin.2;rw [← uB hin] at u;have hs := (tS u.shape).1;rw [xZ 12 51 (by decide +kernel) hk] at hs;have : IntKind.i64.wrap (IntKind.u8.wrap (bO (jY 12) - 48)) = 3 := by decide +kernel
  omega
theorem cE0 (s : ByteArray) : atB ++ s ++ ⟨#[39,32,99,97,110,110,111,116,32,98,101,32]⟩ ++ ⟨#[114,101,97,100]⟩ = atB ++ s ++ cnrB := by
 rw [ByteArray.append_assoc (a := atB ++ s)];rfl
variable {md me : Bool}
theorem tu_in {l : List Vl} (hl : l.length ≤ 2000000) (hv : ∀ v ∈ l,VlIn v) : ObIn (tuO l) :=
 ⟨(by decide : (-9223372036854775808 : Int) ≤ 1 ∧ (1 : Int) ≤ 9223372036854775807),(by decide : (-9223372036854775808 : Int) ≤ 0 ∧ (0 : Int) ≤ 9223372036854775807),(by decide : (-9223372036854775808 : Int) ≤ 0 ∧ (0 : Int) ≤ 9223372036854775807),(by decide : (-9223372036854775808 : Int) ≤ 0 ∧ (0 : Int) ≤ 9223372036854775807),(by decide : ByteArray.empty.size ≤ 2000000),(by decide : 0 ≤ 2000000),(by decide : 0 ≤ 2000000),(by decide : 0 ≤ 2000000),hl,(by decide : 0 ≤ 2000000),(fun _ h => by cases h),hv,(fun _ h => by cases h)⟩
theorem pF0 {l : List Int} {n : Int} (h : jF l n = true) : 0 ≤ ixI l n ∧ (ixI l n).toNat < l.length := by
 have h1 := bP l n;rw [h] at h1;have h2 := Af h1;have h3 := zT0 l n;omega
theorem cU (l : List Int) (k : Nat) : (l.drop k).take (l.length - k) = l.drop k := An (by rw [Bf];omega)
theorem tG0 {l : List Int} {n : Int} (h : jF l n = true) : l.getD (ixI l n).toNat 0 = n := by
 have : ∀ {l : List Int},jF l n = true → 0 ≤ ixI l n → l.getD (ixI l n).toNat 0 = n := by
  intro l;induction l with
  | nil => intro h;cases h
  | cons x l ih =>
   intro h h0;rw [ixI] at h0 ⊢;split
   ·rename_i e;exact e.symm
   ·rename_i e;rw [Aa e] at h0;split at h0
    ·omega
    ·rename_i e2;rw [Aa e2];have h5 : jF l n = true := by rw [← bP,Bg (by omega)]
     have := ih h5 (by omega);rw [show (ixI l n + 1).toNat = (ixI l n).toNat + 1 by omega,List.getD_cons_succ];exact this
 exact this h (pF0 h).1
theorem xI0 {l : List Int} {n : Int} {k : Nat} (hk : k < l.length) (hle : k ≤ (ixI l n).toNat) (h0 : 0 ≤ ixI l n) (e : l.getD k 0 = n) : k = (ixI l n).toNat := by
 induction l generalizing k with
 | nil => cases hk
 | cons x l ih =>
  rw [ixI] at hle h0 ⊢;by_cases hx : n = x
  ·rw [Ab hx] at hle ⊢;omega
  ·rw [Aa hx] at hle h0 ⊢
   cases k with
   | zero => rw [List.getD_cons_zero] at e;exact absurd e.symm hx
   | succ k =>
    rw [List.getD_cons_succ] at e;split at h0
    ·omega
    ·rename_i e2;rw [Aa e2] at hle ⊢;have := ih (k := k) (by simpa using hk) (by omega) (by omega) e;omega
theorem bd_any (h : List Ob) (a v w : Vl) (c : Int) : bdS h a v c false = bdS h a w c false := by unfold bdS;simp
variable {md me : Bool}
theorem xW0 (l : List Int) (k : Nat) : (l.drop k).getD (Int.toNat 0) 0 = l.getD k 0 := by
 show (l.drop k).getD 0 0 = _;rw [Ai,Ct,Ai];rfl
variable {md me : Bool}
theorem CloneSx_G (l : List ByteArray) (hl : l.length ≤ 2000000) : FnG Tryz.prog 33 [ssD l] [] (.mo 0 l.length) [.mrow 9 1 (.map l sD ByteArray.empty)] := by
 refine qS zJ Tryz.func33 rfl rfl rfl rfl rfl rfl rfl ?_;intro w0 s0 mx;refine zB (zE zJ [] 100 rfl ?_);repeat (first | refine zG ?_ | refine zH ?_ | refine zW (by exact jG hl) ?_)
 refine zC (zA (zB (zB ?_)));refine uK Tryz.underlying33 rfl rfl rfl fun c hc => ?_;refine zA (zS rfl (fun c1 => ?_) (fun c1 => ?_))
 ·
  refine zB (zE zJ [] 300 rfl ?_);repeat (first | refine zG ?_ | refine zH ?_ | refine zW (by exact jG hl) ?_)
  refine zC (zA ?_);refine yW 2 9 1 rfl ?_;refine kM 300 rfl ?_;refine zK (zM ?_);obtain rfl := hc c1;exact FinH.ret 300 rfl rfl (Sub.refl _) ⟨SubO.mr rfl,trivial⟩
 ·
  refine zN (zA ?_);refine zB (zE zJ [1005] 400 rfl ?_);repeat (first | refine zG ?_ | refine zH ?_ | refine zW (by first | rfl | exact jG hl | (simp only [MR.len,Aq,Ao];omega)) ?_)
  refine zC (zA (zK ?_));exact FinH.ret 100 rfl rfl (Sub.mo (by rw [Ao,Ce])) ⟨SubO.mr rfl,trivial⟩
variable {md me : Bool}
theorem set_ob {h : List Ob} {n : Int} (hn : inH h n) : h.set n.toNat (zX h n) = h := by
 have h2 := hn.2;have e : zX h n = h[n.toNat] := by show h.getD n.toNat ob0 = _;rw [Ai,Ac h2];rfl
 rw [e];exact List.set_getElem_self h2
theorem closed_ok (h : List Ob) (v : Vl) (hv : v.k = 6 → yO h v.r = true) : Fn Tryz.prog 43 [hpD md h,.agg (vlD v)] (.v (.bool (!wokS h v))) := by
 refine yL zJ Tryz.func43 rfl rfl rfl rfl rfl rfl ?_;intro w0 s0 mx;refine zL 100 ?_;refine zB ?_;refine zB (zE zJ [] 200 rfl ?_);refine zF ?_;refine zT _ (yY h v hv) rfl ?_;refine zF ?_;refine zC (zA (zR (zB (zL 300 ?_))));refine zZ (fun c2 => ?_) (fun c2 => ?_)
 ·
  refine zN (zA (zZ (fun c2x => ?_) (fun c2x => ?_)))
  ·
   refine zL 500 ?_;refine zK (zQ (zM ?_));exact FinV.ret rfl (SubP.bool (by simp_all [wokS]))
  ·
   simp_all
 ·
  refine yT zJ [] 400 ?_;refine zA (zZ (fun c3 => ?_) (fun c3 => ?_))
  ·
   refine zL 500 ?_;refine zK (zQ (zM ?_));exact FinV.ret rfl (SubP.bool (by simp_all [wokS]))
  ·
   refine zL 600 ?_;refine zZ (fun c5 => ?_) (fun c5 => ?_)
   ·
    refine zL 700 ?_;refine zK (zQ (zM ?_));exact FinV.ret rfl (SubP.bool (by simp_all [wokS]))
   ·
    refine zN (zP (zA (zL 800 ?_)));refine zK ?_;exact FinV.ret rfl (SubP.bool (by simp_all [wokS]))
variable {md me : Bool}
theorem upd2_ob {h : List Ob} {n : Nat} {o : Ob} {r1 row : List D} (hr : D.pvs row = D.pvs (obD o)) : D.pvss (((h.map obD).set n r1).set n row) = D.pvss ((h.set n o).map obD) := by
 rw [List.set_set];exact zF0 hr
theorem mW0 (o : Ob) (k m : Nat) (N : List ByteArray) (I : List Vl) : D.pvs ((obD o).take 5 ++ [.own k 1 (N.map sD),.own m 7 (I.map vlD)] ++ (obD o).drop 7) = D.pvs (obD { o with names := N,items := I }) := by
 show D.pvs [_,_,_,_,_,D.own k 1 (N.map sD),D.own m 7 (I.map vlD),_,_,_] = D.pvs [_,_,_,_,_,D.sl false 1 N sD ByteArray.empty,D.sl false 7 I vlD vl0,_,_,_];simp only [D.pvs,D.pv,yR,Cb];rfl
theorem put_eq (o : Ob) (s : ByteArray) (w : Vl) : { o with names := (qE o s w).names,items := (qE o s w).items } = qE o s w := by
 unfold qE;split <;> rfl
theorem wY0 {h : List Ob} {n : Int} {o : Ob} (hn : inH h n) : zX (h.set n.toNat o) n = o := by
 show (h.set n.toNat o).getD n.toNat ob0 = o;rw [Ai,List.getElem?_set,Ab rfl,Ab hn.2];rfl
theorem inH_set {h : List Ob} {n m : Int} {o : Ob} (hn : inH h n) : inH (h.set m.toNat o) n := ⟨hn.1,by rw [Bp];exact hn.2⟩
theorem wO0 (o : Ob) (s : ByteArray) (w : Vl) : (qE o s w).state = o.state := by
 unfold qE;split <;> rfl
namespace Gq
variable {md me : Bool}
structure Uh (h : List Ob) : Prop where
 lo : 49 ≤ h.length
 hi : h.length ≤ 100000
 kind : ∀ {n : Int},yO h n = true → 0 < (zX h n).kind ∧ (zX h n).kind < 21
 cls : ∀ {n : Int},inH h n → (zX h n).kind = 10 → inH h (zX h n).cls
 items : ∀ {n : Int},inH h n → ∀ {v : Vl},v ∈ (zX h n).items → v.k = 6 → yO h v.r = true
 ni : ∀ {n : Int},inH h n → (zX h n).names.length ≤ (zX h n).items.length
 ord : ∀ {n : Int},inH h n → ∀ r ∈ (zX h n).order,inH h r
 one : ∀ {n : Int},inH h n → (zX h n).kind = 13 ∨ (zX h n).kind = 14 → (zX h n).items.length = 1
 m8 : ∀ {n : Int},inH h n → (zX h n).kind = 8 → 0 < (zX h n).items.length ∧ uT h ((zX h n).items.getD 0 vl0) = true
 p12 : ∀ {n : Int},inH h n → (zX h n).kind = 12 → (zX h n).items.length = 3
 nm : ∀ {n : Int},inH h n → (zX h n).name.size ≤ 700
 gc : ∀ {n : Int},inH h n → ∀ x ∈ (zX h n).items,Gc h x
 su : ∀ {n : Int},inH h n → (zX h n).kind = 15 → (zX h n).items.length = 2 ∧ inH h (suC h (zX h n)) ∧ jF (zX h (suC h (zX h n))).order ((zX h n).items.getD 0 vl0).r = true ∧ ((zO h ((zX h n).items.getD 1 vl0)).kind = 10 ∨ (zO h ((zX h n).items.getD 1 vl0)).kind = 9)
 c14 : ∀ {n : Int},inH h n → (zX h n).kind = 14 → uT h ((zX h n).items.getD 0 vl0) = true
 cl9 : ∀ {n : Int},inH h n → ∀ r ∈ (zX h n).order,(zX h r).kind = 9
 hd9 : ∀ {n : Int},inH h n → (zX h n).kind = 9 → 49 ≤ n → (zX h n).order.head? = some n
 wr : ∀ {n : Int},inH h n → ((zX h n).kind = 10 ∨ (zX h n).kind = 11) ∨ ((zX h n).kind = 9 ∧ 49 ≤ n) → 49 ≤ n.toNat ∧ (zX h n).names.length ≤ 200 ∧ (zX h n).items.length ≤ 1000 ∧ (zX h n).names.length = (zX h n).items.length ∧ 0 ≤ (zX h n).state ∧ (zX h n).state ≤ 1099511627776000
theorem nm_it {h : List Ob} (g : Uh h) {n : Int} (hn : inH h n) : (zX h n).names.length ≤ (zX h n).items.length := g.ni hn
theorem cok_of {h : List Ob} (hh : HpIn h) (g : Uh h) {c : Int} (hn : inH h c) : Cok h (zX h c).order := ⟨(hh.at c).ol,fun r hr => ⟨g.ord hn r hr,g.ni (g.ord hn r hr)⟩⟩
theorem one_item {h : List Ob} (g : Uh h) {n : Int} (hn : inH h n) (hk : (zX h n).kind = 13 ∨ (zX h n).kind = 14) : (zX h n).items.length = 1 := g.one hn hk
theorem meth_item {h : List Ob} (g : Uh h) {v : Vl} (hk : (zO h v).kind = 8) : 0 < (zO h v).items.length ∧ uT h ((zO h v).items.getD 0 vl0) = true := by
 obtain ⟨_,ho,e⟩ := qD (h := h) (v := v) (by omega);rw [e] at hk ⊢;exact g.m8 (yJ ho) hk
theorem prop_item {h : List Ob} (g : Uh h) {a : Vl} (hk : (zO h a).kind = 12) : (zO h a).items.length = 3 := by
 obtain ⟨_,ho,e⟩ := qD (h := h) (v := a) (by omega);rw [e] at hk ⊢;exact g.p12 (yJ ho) hk
theorem gc_items {h : List Ob} (g : Uh h) (_hh : HpIn h) {n : Int} (hn : inH h n) : ∀ x ∈ (zX h n).items,Gc h x := g.gc hn
theorem nm_sz {h : List Ob} (g : Uh h) {n : Int} (hn : inH h n) : (zX h n).name.size ≤ 700 := g.nm hn
theorem su_links {h : List Ob} (g : Uh h) {v : Vl} (hk : (zO h v).kind = 15) : (zO h v).items.length = 2 ∧ inH h (suC h (zO h v)) ∧ jF (zX h (suC h (zO h v))).order ((zO h v).items.getD 0 vl0).r = true ∧ ((zO h ((zO h v).items.getD 1 vl0)).kind = 10 ∨ (zO h ((zO h v).items.getD 1 vl0)).kind = 9) := by
 obtain ⟨_,ho,e⟩ := qD (h := h) (v := v) (by omega);rw [e] at hk ⊢;exact g.su (yJ ho) hk
structure Wr (h : List Ob) (v : Vl) : Prop where
 k6 : v.k = 6
 ob : yO h v.r = true
 inr : inH h v.r
 eo : zO h v = zX h v.r
 hi : 49 ≤ v.r.toNat
 nl : (zO h v).names.length ≤ 200
 il : (zO h v).items.length ≤ 1000
 ni : (zO h v).names.length = (zO h v).items.length
 st : 0 ≤ (zO h v).state ∧ (zO h v).state ≤ 1099511627776000
theorem wr_of {h : List Ob} (g : Uh h) {v : Vl} (hw : wokS h v = true) : Wr h v := by
 unfold wokS at hw;simp only [Bz,Ah,Am,Bc,At] at hw;obtain ⟨h6,ho,e⟩ := qD (h := h) (v := v) (by omega);have hin := yJ ho;rw [e] at hw;have hq := g.wr hin (hw.imp id fun h9 => ⟨h9.1,by omega⟩);exact ⟨h6,ho,hin,e,hq.1,by rw [e];exact hq.2.1,by rw [e];exact hq.2.2.1,by rw [e];exact hq.2.2.2.1,by rw [e];exact hq.2.2.2.2⟩
theorem cf_of {h : List Ob} {v : Vl} (g : Uh h) (hh : qQ h v = true) : Cf h v := by
 have hv : jJ v = true := by
  simp only [qQ,Ah] at hh;exact hh.1
 exact ⟨voks_k hv,vC hh,fun hk => g.kind (vC hh hk),fun hk => g.cls (yJ (vC hh hk))⟩
theorem ocS_in {h : List Ob} {o : Ob} (g : Uh h) (hk : 0 < o.kind ∧ o.kind < 21) (hc : o.kind = 10 → inH h o.cls) : inH h (ocS o) := by
 unfold ocS;split
 ·rename_i h1;exact hc h1
 ·have h3 := Bd.1 (show (List.range 21).all (fun n => decide (0 ≤ ocL.getD n 0 ∧ ocL.getD n 0 < 49)) = true by decide +kernel) o.kind.toNat (Ch.2 (by omega));have h4 := Af h3;have := g.lo;exact ⟨h4.1,by omega⟩
theorem clA_in {h : List Ob} {v : Vl} (g : Uh h) (c : Cf h v) : inH h (clA h v) := by
 unfold clA;split
 ·rename_i h1;exact ocS_in g (c.kind h1) (c.cls h1)
 ·have h3 := Bd.1 (show (List.range 9).all (fun n => decide (0 ≤ kcL.getD n 0 ∧ kcL.getD n 0 < 49)) = true by decide +kernel) v.k.toNat (Ch.2 (by have := c.k;omega));have h4 := Af h3;have := g.lo;exact ⟨h4.1,by omega⟩
theorem own_rv {h : List Ob} (g : Uh h) {n : Int} (hn : inH h n) (s : ByteArray) (hk : (ownV (zX h n) s).k = 6) : yO h (ownV (zX h n) s).r = true := by
 have hlt := xJ0 (zX h n).names s;have hni := nm_it g hn;by_cases hi : ixI (zX h n).names s < 0
 ·rw [ownV,Ab hi] at hk;exact absurd hk (by decide)
 ·rw [ownV,Aa hi] at hk ⊢;have hj : (ixI (zX h n).names s).toNat < (zX h n).items.length := by omega
  rw [Ai,Ac hj] at hk ⊢;exact g.items hn (Ca _) hk
theorem jL0 {h : List Ob} (hh : HpIn h) (g : Uh h) {c : Int} (hn : inH h c) (s : ByteArray) (hk : (fdV h s (fdO h (zX h c).order s)).k = 6) : yO h (fdV h s (fdO h (zX h c).order s)).r = true := by
 cases hf : fdO h (zX h c).order s with
 | none => rw [hf] at hk;exact absurd hk (show ¬ (0 : Int) = 6 by decide)
 | some r =>
  rw [hf] at hk;exact own_rv g ((cok_of hh g hn).2 r (Cw hf)).1 s hk
theorem qW {h : List Ob} (g : Uh h) {v : Vl} (hk : (zO h v).kind = 13 ∨ (zO h v).kind = 14) : 0 < (zO h v).items.length := by
 have h1 := qD (h := h) (v := v) (by omega);rw [h1.2.2] at hk ⊢;rw [one_item g (yJ h1.2.1) hk];decide
theorem inst_cls {h : List Ob} (g : Uh h) {v : Vl} (hk : (zO h v).kind = 10) : inH h (zO h v).cls := by
 have h1 := qD (h := h) (v := v) (by omega);rw [h1.2.2] at hk ⊢;exact g.cls (yJ h1.2.1) hk
theorem xD0 (h : List Ob) (g : Uh h) (v : Vl) : (jR h v).2 = ((decide (v.k = 7) || decide ((zO h v).kind = 7)) || decide ((zO h v).kind = 8)) := by
 unfold jR jT;by_cases c1 : v.k = 7
 ·rw [Ab c1,Bg c1];rfl
 ·rw [Aa c1,Br c1];by_cases c2 : (zO h v).kind = 7
  ·rw [Ab c2,Bg c2];rfl
  ·rw [Aa c2,Br c2];by_cases c3 : (zO h v).kind = 8
   ·rw [Ab c3,Bg c3];have hc := (meth_item g c3).2;rw [uT,Bz,Am,Am] at hc;show (jT h _ _).2 = true;rw [jT];rcases hc with hc | hc
    ·rw [Ab hc]
    ·by_cases c4 : ((zO h v).items.getD 0 vl0).k = 7
     ·rw [Ab c4]
     ·rw [Aa c4,Ab hc]
   ·rw [Aa c3,Br c3];rfl
theorem wL {h : List Ob} (g : Uh h) (v : Vl) : (zO h v).names.length ≤ (zO h v).items.length := by
 by_cases h0 : (zO h v).kind = 0
 ·by_cases hk : v.k = 6 ∧ yO h v.r = true
  ·rw [show zO h v = zX h v.r from Ab hk];exact nm_it g (yJ hk.2)
  ·rw [show zO h v = ob0 from Aa hk];exact Ar _
 ·have h1 := qD h0;rw [h1.2.2];exact nm_it g (yJ h1.2.1)
theorem gc_obj {h : List Ob} (g : Uh h) (hh : HpIn h) (v : Vl) : ∀ x ∈ (zO h v).items,Gc h x := fun x hx => by
 by_cases hk : v.k = 6 ∧ yO h v.r = true
 ·rw [show zO h v = zX h v.r from Ab hk] at hx;exact gc_items g hh (yJ hk.2) x hx
 ·rw [show zO h v = ob0 from Aa hk] at hx
  cases hx
theorem gc_fd {h : List Ob} (g : Uh h) (hh : HpIn h) {L : List Int} (hL : ∀ r ∈ L,inH h r) (s : ByteArray) : Gc h (fdV h s (fdO h L s)) := by
 cases hf : fdO h L s with
 | none => exact gc_0 h
 | some r => exact pK0 (gc_items g hh (hL r (Cw hf))) s
theorem gc_sp {h : List Ob} (g : Uh h) (hh : HpIn h) {v : Vl} (hv : Gc h v) (s : ByteArray) : Gc h (spS h v s).1 ∧ (∀ x ∈ (spS h v s).2.1,Gc h x) ∧ (spS h v s).2.1.length ≤ 1 := by
 have hn : ∀ x ∈ ([] : List Vl),Gc h x := fun _ hx => by cases hx
 unfold spS;split
 ·exact ⟨gc_0 h,hn,Ap _⟩
 ·rename_i hk;have hin := inst_cls g (v := v) (Classical.not_not.1 hk);have hf := gc_fd g hh (L := (zX h (zO h v).cls).order) (fun r hr => ((cok_of hh g hin).2 r hr).1) s;split
  ·exact ⟨gc_0 h,hn,Ap _⟩
  ·split
   ·exact ⟨hf,fun x hx => by rw [By.1 hx];exact hv,Ar _⟩
   ·split
    ·exact ⟨vD (gc_obj g hh _) 0,hn,Ap _⟩
    ·split
     ·exact ⟨vD (gc_obj g hh _) 0,fun x hx => by rw [By.1 hx];exact jF0 hin (by have := g.hi;omega),Ar _⟩
     ·exact ⟨hf,hn,Ap _⟩
theorem obj_sz {h : List Ob} (g : Uh h) (v : Vl) : (zO h v).name.size ≤ 700 := by
 by_cases hk : v.k = 6 ∧ yO h v.r = true
 ·rw [show zO h v = zX h v.r from Ab hk];exact nm_sz g (yJ hk.2)
 ·rw [show zO h v = ob0 from Aa hk];exact Ap _
theorem aft_in {h : List Ob} (hh : HpIn h) (g : Uh h) {c : Int} (hc : inH h c) (n : Int) : Cok h (aftL (zX h c).order n) := by
 have hk := cok_of hh g hc;refine ⟨?_,fun r hr => hk.2 r (Di hr)⟩;have := hk.1;unfold aftL;rw [Bf];omega
theorem lk_C {h : List Ob} (g : Uh h) {v : Vl} (hv : qQ h v = true) {s : ByteArray} (hs : s.size ≤ 100) (N : Nat) : StC N (lkS h v s) := by
 have h1 := obj_sz g v;have h2 := nm_sz g (clA_in g (cf_of g hv));have hw : (whoS h v).size ≤ 1000 := by
  have q1 : qB.size ≤ 100 := by decide
  have q2 : cqB.size ≤ 100 := by decide
  have q3 : mqB.size ≤ 100 := by decide
  unfold whoS;repeat' split
  all_goals rw [Av];omega
 refine kY0 ?_;have q1 : qB.size ≤ 100 := by decide
 have q4 : nhB.size ≤ 100 := by decide
 rw [Av,Av,Av];omega
theorem gt_C {h : List Ob} (g : Uh h) (hh : HpIn h) (a : Vl) {v : Vl} (hv : Gc h v) {s : ByteArray} (hs : s.size ≤ 100) : StC h.length (gtS (zO h a) v s) := by
 unfold gtS;split
 ·refine kY0 ?_;have q1 : atB.size ≤ 100 := by decide
  have q2 : cnrB.size ≤ 100 := by decide
  rw [Av,Av];omega
 ·exact kZ0 (vD (gc_obj g hh a) 0) (fun x hx => by rw [By.1 hx];exact hv) (by show 1 ≤ 1000;omega)
end Gq
end Go.Proofs.YtifgelimmddkpaaGreatDoor
