/- Part 16 of the proof. -/
import Derived.Test.YtinegkcbkefeiaaGreatDoorW15
namespace Go.Proofs.YtinegkcbkefeiaaGreatDoor
open Go.RowKit
variable {md me : Bool}
structure ObIn (o : Ob) : Prop where
 kd : -9223372036854775808 ≤ o.kind ∧ o.kind ≤ 9223372036854775807
 cl : -9223372036854775808 ≤ o.cls ∧ o.cls ≤ 9223372036854775807
 co : -9223372036854775808 ≤ o.code ∧ o.code ≤ 9223372036854775807
 st : -9223372036854775808 ≤ o.state ∧ o.state ≤ 9223372036854775807
 nm : o.name.size ≤ 2000000
 rl : o.refs.length ≤ 2000000
 ol : o.order.length ≤ 2000000
 nl : o.names.length ≤ 2000000
 il : o.items.length ≤ 2000000
 kl : o.keys.length ≤ 2000000
 ns : ∀ s ∈ o.names,s.size ≤ 2000000
 iv : ∀ v ∈ o.items,VlIn v
 kv : ∀ v ∈ o.keys,VlIn v
theorem zQ1 : ObIn ob0 := ⟨by decide,by decide,by decide,by decide,by decide,by decide,by decide,by decide,by decide,by decide,(fun _ h => by cases h),(fun _ h => by cases h),(fun _ h => by cases h)⟩
structure HpIn (h : List Ob) : Prop where
 ob : ∀ o ∈ h,ObIn o
 len : h.length ≤ 2000000
theorem HpIn.at {h : List Ob} (hh : HpIn h) (n : Int) : ObIn (yO h n) := by
 show ObIn (h.getD n.toNat ob0);rw [Ao]
 cases hq : h[n.toNat]? with
 | none => exact zQ1
 | some o => exact hh.ob o (Bg hq)
theorem VlIn.zero {v : Vl} (h : VlIn v) : VlIn { v with k := 0 } := ⟨(by decide : (-9223372036854775808 : Int) ≤ 0),(by decide : (0 : Int) ≤ 9223372036854775807),h.r1,h.r2,h.nl,h.dl,h.nn,h.dn,h.s⟩
theorem vl0_in : VlIn vl0 := ⟨by decide,by decide,by decide,by decide,(fun _ h => by cases h),(fun _ h => by cases h),by decide,by decide,by decide⟩
theorem dC {l : List Vl} (h : ∀ v ∈ l,VlIn v) (n : Nat) : VlIn (l.getD n vl0) := by
 rw [Ao]
 cases hq : l[n]? with
 | none => exact vl0_in
 | some v => exact h v (Bg hq)
def lettersB : ByteArray := ⟨#[110,99,114,97,107,100,115]⟩
def bD (b : Bool) : List D := [.v (.bool b)]
def mF0 (o : Ob) : List Bool := [decide (o.name = ⟨#[]⟩),decide (o.cls = 0),decide ((o.refs.length : Int) = 0),decide ((o.names.length : Int) = 0),decide ((o.keys.length : Int) = 0),decide (o.code = 0),decide (o.state = 0)]
def ltP (o : Ob) (i : Nat) : Bool := !(!((mF0 o).getD ((i : Int)).toNat false) && !(Lib.contains (wT o.kind).data.toList (lettersB.extract ((i : Int)).toNat ((i : Int) + 1).toNat).data.toList))
abbrev vH0 (u : ByteArray) : Int := (bAt u ((u.size : Int) - 1).toNat : Nat)
def cntS (o : Ob) : Int := if wT o.kind = ⟨#[]⟩ then 0 else if vH0 (wT o.kind) = 42 then o.items.length else if vH0 (wT o.kind) = 61 then o.names.length else if vH0 (wT o.kind) = 58 then o.keys.length else IntKind.i64.wrap (IntKind.u8.wrap (vH0 (wT o.kind) - 48))
def wU (o : Ob) : Bool := ((((!decide ((o.items.length : Int) = cntS o) || decide (o.code < 0)) || decide (o.state < 0)) || decide (mK o.kind < o.state)) || (!decide (o.kind = 9) && decide (0 < (o.order.length : Int))))
def vE (o : Ob) : Int := if (List.range 7).all (ltP o) = true then (if wU o = true then 6 else 0) else 6
theorem uD0 (k : Int) : (wT k).size ≤ 100 := by
 have h : ∀ u ∈ usesL,u.size ≤ 100 := by decide +kernel
 show (usesL.getD k.toNat ByteArray.empty).size ≤ 100;rw [Ao]
 cases hq : usesL[k.toNat]? with
 | none => decide
 | some u => exact h u (Bg hq)
theorem gT0 {u : ByteArray} (h : ¬ u = ⟨#[]⟩) : 0 < u.size := by
 rcases Bv u.size with h0 | h0
 ·exact absurd (cB h0) h
 ·exact h0
def mN (o : Ob) : Bool := if o.kind = 11 then dotS o.name else kC o.name
def mx3 (a b c : Int) : Int := if (if a < b then b else a) < c then c else (if a < b then b else a)
def gQ (o : Ob) : Int := if (Lib.contains (wT o.kind).data.toList [110] && !mN o) = true then 7 else if (decide (1000 < mx3 o.items.length o.keys.length o.refs.length) || decide (200 < (o.names.length : Int))) = true then 2 else 0
structure Sc {α β : Type} (l : List α) (F : List α → List α → β) where
 k : Nat
 le : k ≤ l.length
 eq : F (l.take k) (l.drop k) = F [] l
theorem tM0 {α : Type} {l : List α} {k : Nat} (h : k < l.length) (e : α) : l.drop k = l.getD (k : Int).toNat e :: l.drop (k + 1) := by rw [yT h,Bw h]
theorem jS {α : Type} {l : List α} {k : Nat} (h : k < l.length) (e : α) : l.take (k + 1) = l.take k ++ [l.getD (k : Int).toNat e] := by rw [yT h,Do h]
def Sc.start {α β : Type} (l : List α) (F : List α → List α → β) : Sc l F := ⟨0,Ar _,rfl⟩
def Sc.next {α β : Type} {l : List α} {F : List α → List α → β} {e : α} (x : Sc l F) (h1 : x.k < l.length) (h2 : F (l.take x.k) (l.getD (x.k : Int).toNat e :: l.drop (x.k + 1)) = F (l.take x.k ++ [l.getD (x.k : Int).toNat e]) (l.drop (x.k + 1))) : Sc l F := ⟨x.k + 1,by omega,by
 rw [jS h1 e,← h2,← tM0 h1 e];exact x.eq⟩
theorem Sc.here {α β : Type} {l : List α} {F : List α → List α → β} {e : α} (x : Sc l F) (h1 : x.k < l.length) {n : β} (h2 : F (l.take x.k) (l.getD (x.k : Int).toNat e :: l.drop (x.k + 1)) = n) : n = F [] l := by
 rw [← h2,← tM0 h1 e];exact x.eq
theorem Sc.done {α β : Type} {l : List α} {F : List α → List α → β} (x : Sc l F) (h1 : ¬ x.k < l.length) {n : β} (h2 : F l [] = n) : n = F [] l := by
 have := x.eq;rw [Ak (by omega),Az (by omega),h2] at this;exact this
def nmF : List ByteArray → List ByteArray → Int
 | _,[] => 0
 | seen,s :: r => if kC s = false then 7 else if hasB seen s = true then 8 else nmF (seen ++ [s]) r
def bH0 (o : Ob) : Int := nmF [] o.names
def fixV (o : Ob) (v : Vl) : Vl := if v.k = 9 ∧ (o.kind = 6 ∨ o.kind = 17) then { v with k := 0 } else v
def jW : List Vl → List Int
 | [] => []
 | v :: l => if v.k = 6 then v.r :: jW l else jW l
theorem jT : ∀ l m : List Vl,jW (l ++ m) = jW l ++ jW m
 | [],_ => rfl
 | v :: l,m => by
  rw [List.cons_append,jW,jW,jT l m];split <;> rfl
theorem kV : ∀ l : List Vl,(jW l).length ≤ l.length
 | [] => Aj _
 | v :: l => by
  rw [jW];split
  ·simp;exact kV l
  ·simp;have := kV l;omega
def kB (o : Ob) : List Int := [o.cls] ++ o.refs ++ o.order
def vV (o : Ob) : List Int := (kB o ++ jW (o.keys ++ o.items)) ++ (if o.kind = 18 ∧ o.state ≠ 0 then [IntKind.i64.wrap (o.state - 1)] else [])
def vF (h : List Ob) (o : Ob) : Int := if ((o.keys ++ o.items).all fun v => qX (fixV o v)) = true then (if (vV o).all (uM h) = true then 0 else 4) else 6
theorem jF1 {P : Program} {E : Pn} {K : DS → Prop} {p : Prop} {r : Out} (hr : r.sat P E K) (hp : p := by first | exact trivial | omega | exact ini (by omega) (by omega) | (intro hh;simp at hh;exact ini (by omega) (by omega)) | (intro hh;simp at hh ⊢;omega) | (simp at *;omega) | (simp_all;done) | (intro hh;exact ⟨by omega,by omega,by show (x.k : Int) + 1 ≤ ((lettersB.size : Nat) : Int);have : lettersB.size = 7 := rfl;omega⟩)) : (Out.need p r).sat P E K := ⟨hp,hr⟩
theorem shape_ok (h : List Ob) (n : Int) (hn : inH h n) (hk : 0 ≤ (h.getD n.toNat ob0).kind ∧ (h.getD n.toNat ob0).kind < 21) : Fn Tryz.prog 79 [hpD md h,.v (.int .i64 n)] (.v (.int .i64 (vE (h.getD n.toNat ob0)))) := by
 have hus := uD0 (h.getD n.toNat ob0).kind;refine yE zK Tryz.func79 rfl rfl rfl rfl rfl rfl ?_;intro w0 s0 mx;refine zJ 100 ?_;refine zB (zE zK [] 200 rfl ?_);repeat (first | refine zG ?_ | refine zH ?_ | refine zW (by exact hn) ?_)
 refine zC (zA ?_);refine zB (zE zK [] 300 rfl ?_);refine zF ?_;refine zP _ (pT0 _ hk) rfl ?_;refine zF ?_;refine zC (zA (zJ 400 ?_));refine zJ 500 ?_;refine zB (zJ 600 ?_);refine zR ?_;refine yC (ι := Up 7 (ltP (h.getD n.toNat ob0))) [5,6,7] [105] 650 (fun x => [(47,.v (.int .i64 x.k)),(46,.v (.int .i64 7)),(8,.sl false 1 (mF0 (h.getD n.toNat ob0)) bD false),(45,.sl false 1 (mF0 (h.getD n.toNat ob0)) bD false)]) (fun _ => []) (fun x => 7 - x.k) ⟨0,Ar _,fun j hj => by omega⟩ ?_;refine ⟨⟨yK,yH,rfl,rfl⟩,fun x => ?_⟩;have hk7 := x.le;have hem : (mF0 (h.getD n.toNat ob0)).length = 7 := rfl;refine zJ 700 ?_;refine zB (zT rfl (fun c6 => ?_) (fun c6 => ?_))
 ·replace c6 : x.k < 7 := by have := Ag c6;omega
  refine zM (zA (zB (zR (zJ 800 ?_))));refine zB (zE zK [] 900 rfl ?_);repeat (first | refine zG ?_ | refine zH ?_ | refine jF1 ?_)
  refine yJ _ (fun hg12 => zO0 _ _ (by omega)) rfl ?_;repeat (first | refine zG ?_ | refine zH ?_ | refine jF1 ?_)
  refine zC (zA (zT rfl (fun c8 => ?_) (fun c8 => ?_)))
  ·
   refine zJ 1000 ?_;refine zL (zQ (zN (yL (zQ (zN ?_)))));exact u4 rfl (u10 (by rw [vE,Up.no (p := ltP (h.getD n.toNat ob0)) c6 (congrArg Bool.not c8)];rfl))
  ·
   refine zM (zO (zA (yM zK [] 1100 ?_)));exact zS (x.next (by omega) (congrArg Bool.not c8)) ⟨yK,yH,rfl,rfl⟩ (by show 7 - (x.k + 1) < 7 - x.k;omega)
 ·replace c6 : ¬ x.k < 7 := by have := of_decide_eq_false c6;omega
  refine yD (yA (yB (zX (zA (zJ 1200 ?_)))));refine zB (zJ 1300 ?_);refine zY (fun c12 => ?_) (fun c12 => ?_)
  ·
   refine zB (zE zK [] 1400 rfl ?_);repeat (first | refine zG ?_ | refine zH ?_ | refine zW (by first | exact ini (by have := gT0 c12;omega) (by omega) | (have := gT0 c12;omega)) ?_)
   refine zC (zA (zJ 1500 ?_));refine zR (zJ 1700 ?_);refine zY (fun c16 => ?_) (fun c16 => ?_)
   ·
    refine yM zK [] 1800 ?_;refine zO (zA (zB ?_));refine zB (zZ zK [] mK3 2300 yQ (by kernel_rfl) rfl ?_);refine zF ?_;refine yJ _ (fun hg20 => wL _) rfl ?_;refine zF ?_;refine zC (zA (zT rfl (fun c22 => ?_) (fun c22 => ?_)))
    ·
     refine zJ 2400 ?_;refine zL (zN ?_);exact u4 rfl (u10 (by rw [vE,Ae (x.yes c6),(show wU (h.getD n.toNat ob0) = true from (by rw [wU,cntS,Aa c12,Ae c16];exact c22))];rfl))
    ·
     refine zM (zA (zJ 2500 ?_));refine zL ?_;exact u4 rfl (u10 (by rw [vE,Ae (x.yes c6),(show wU (h.getD n.toNat ob0) = false from (by rw [wU,cntS,Aa c12,Ae c16];exact c22))];rfl))
   ·
    refine zJ 1900 ?_;refine zY (fun c18 => ?_) (fun c18 => ?_)
    ·
     refine yM zK [] 2000 ?_;refine zO (zA (zB ?_));refine zB (zZ zK [] mK3 2300 yQ (by kernel_rfl) rfl ?_);refine zF ?_;refine yJ _ (fun hg20 => wL _) rfl ?_;refine zF ?_;refine zC (zA (zT rfl (fun c22 => ?_) (fun c22 => ?_)))
     ·
      refine zJ 2400 ?_;refine zL (zN ?_);exact u4 rfl (u10 (by rw [vE,Ae (x.yes c6),(show wU (h.getD n.toNat ob0) = true from (by rw [wU,cntS,Aa c12,Aa c16,Ae c18];exact c22))];rfl))
     ·
      refine zM (zA (zJ 2500 ?_));refine zL ?_;exact u4 rfl (u10 (by rw [vE,Ae (x.yes c6),(show wU (h.getD n.toNat ob0) = false from (by rw [wU,cntS,Aa c12,Aa c16,Ae c18];exact c22))];rfl))
    ·
     refine zJ 2100 ?_;refine zY (fun c20 => ?_) (fun c20 => ?_)
     ·
      refine yM zK [] 2200 ?_;refine zO (zA (zB ?_));refine zB (zZ zK [] mK3 2300 yQ (by kernel_rfl) rfl ?_);refine zF ?_;refine yJ _ (fun hg20 => wL _) rfl ?_;refine zF ?_;refine zC (zA (zT rfl (fun c22 => ?_) (fun c22 => ?_)))
      ·
       refine zJ 2400 ?_;refine zL (zN ?_);exact u4 rfl (u10 (by rw [vE,Ae (x.yes c6),(show wU (h.getD n.toNat ob0) = true from (by rw [wU,cntS,Aa c12,Aa c16,Aa c18,Ae c20];exact c22))];rfl))
      ·
       refine zM (zA (zJ 2500 ?_));refine zL ?_;exact u4 rfl (u10 (by rw [vE,Ae (x.yes c6),(show wU (h.getD n.toNat ob0) = false from (by rw [wU,cntS,Aa c12,Aa c16,Aa c18,Ae c20];exact c22))];rfl))
     ·
      refine yM zK [] 2200 ?_;refine zO (zA (zB ?_));refine zB (zZ zK [] mK3 2300 yQ (by kernel_rfl) rfl ?_);refine zF ?_;refine yJ _ (fun hg20 => wL _) rfl ?_;refine zF ?_;refine zC (zA (zT rfl (fun c22 => ?_) (fun c22 => ?_)))
      ·
       refine zJ 2400 ?_;refine zL (zN ?_);exact u4 rfl (u10 (by rw [vE,Ae (x.yes c6),(show wU (h.getD n.toNat ob0) = true from (by rw [wU,cntS,Aa c12,Aa c16,Aa c18,Aa c20];exact c22))];rfl))
      ·
       refine zM (zA (zJ 2500 ?_));refine zL ?_;exact u4 rfl (u10 (by rw [vE,Ae (x.yes c6),(show wU (h.getD n.toNat ob0) = false from (by rw [wU,cntS,Aa c12,Aa c16,Aa c18,Aa c20];exact c22))];rfl))
  ·
   refine zM (zA (zB ?_));refine zB (zZ zK [] mK3 2300 yQ (by kernel_rfl) rfl ?_);refine zF ?_;refine yJ _ (fun hg20 => wL _) rfl ?_;refine zF ?_;refine zC (zA (zT rfl (fun c22 => ?_) (fun c22 => ?_)))
   ·
    refine zJ 2400 ?_;refine zL (zN ?_);exact u4 rfl (u10 (by rw [vE,Ae (x.yes c6),(show wU (h.getD n.toNat ob0) = true from (by rw [wU,cntS,Ae c12];exact c22))];rfl))
   ·
    refine zM (zA (zJ 2500 ?_));refine zL ?_;exact u4 rfl (u10 (by rw [vE,Ae (x.yes c6),(show wU (h.getD n.toNat ob0) = false from (by rw [wU,cntS,Ae c12];exact c22))];rfl))
theorem sizes_ok (h : List Ob) (n : Int) (hn : inH h n) (hk : 0 ≤ (h.getD n.toNat ob0).kind ∧ (h.getD n.toNat ob0).kind < 21) (hh : HpIn h) : Fn Tryz.prog 80 [hpD md h,.v (.int .i64 n)] (.v (.int .i64 (gQ (h.getD n.toNat ob0)))) := by
 have hus := uD0 (h.getD n.toNat ob0).kind;have hnm := (show ObIn (h.getD n.toNat ob0) from hh.at n).nm;refine yE zK Tryz.func80 rfl rfl rfl rfl rfl rfl ?_;intro w0 s0 mx;refine zJ 100 ?_;refine zB (zE zK [] 200 rfl ?_);repeat (first | refine zG ?_ | refine zH ?_ | refine zW (by exact hn) ?_)
 refine zC (zA (zB ?_));refine zB (zE zK [] 300 rfl ?_);refine zF ?_;refine zP _ (pT0 _ hk) rfl ?_;refine zF ?_;refine zP _ (zO0 _ _ (by omega)) rfl ?_;refine zF ?_;refine zC (zA (zT rfl (fun c2 => ?_) (fun c2 => ?_)))
 ·
  refine zB (zE zK [] 400 rfl ?_);refine zF ?_;refine zP _ (zK0 _) rfl ?_;refine zF ?_;refine zC (zA (zB (zJ 500 ?_)));refine zY (fun c4 => ?_) (fun c4 => ?_)
  ·
   refine zE zK [] 600 rfl ?_;refine zF ?_;refine zP _ (zN0 _ (by first | assumption | omega | (simp_all;done))) rfl ?_;refine zF ?_;refine zC (zA (zJ 700 ?_));refine zT rfl (fun c6 => ?_) (fun c6 => ?_)
   ·simp only [Bl] at c6;refine zJ 800 ?_;refine zL (zN ?_);exact u4 rfl (u10 (by rw [gQ,show (Lib.contains (wT (h.getD n.toNat ob0).kind).data.toList [110] && !mN (h.getD n.toNat ob0)) = true from (by rw [c2,mN,Ae c4,c6];rfl)];rfl))
   ·simp only [Bt] at c6;refine zM (zA (zB (zJ 900 ?_)));refine zT rfl (fun c8 => ?_) (fun c8 => ?_)
    ·
     refine zJ 1000 ?_;refine zL (zN ?_);exact u4 rfl (u10 (by rw [gQ,show (Lib.contains (wT (h.getD n.toNat ob0).kind).data.toList [110] && !mN (h.getD n.toNat ob0)) = false from (by rw [c2,mN,Ae c4,c6];rfl)];rw [Aa (by decide)];show _ = if (_ : Bool) = true then _ else _;unfold mx3;rw [c8];rfl))
    ·
     refine zM (zA (zJ 1100 ?_));refine zL ?_;exact u4 rfl (u10 (by rw [gQ,show (Lib.contains (wT (h.getD n.toNat ob0).kind).data.toList [110] && !mN (h.getD n.toNat ob0)) = false from (by rw [c2,mN,Ae c4,c6];rfl)];rw [Aa (by decide)];show _ = if (_ : Bool) = true then _ else _;unfold mx3;rw [c8];rfl))
  ·
   refine zM (zA (zJ 700 ?_));refine zT rfl (fun c6 => ?_) (fun c6 => ?_)
   ·simp only [Bl] at c6;refine zJ 800 ?_;refine zL (zN ?_);exact u4 rfl (u10 (by rw [gQ,show (Lib.contains (wT (h.getD n.toNat ob0).kind).data.toList [110] && !mN (h.getD n.toNat ob0)) = true from (by rw [c2,mN,Aa c4,c6];rfl)];rfl))
   ·simp only [Bt] at c6;refine zM (zA (zB (zJ 900 ?_)));refine zT rfl (fun c8 => ?_) (fun c8 => ?_)
    ·
     refine zJ 1000 ?_;refine zL (zN ?_);exact u4 rfl (u10 (by rw [gQ,show (Lib.contains (wT (h.getD n.toNat ob0).kind).data.toList [110] && !mN (h.getD n.toNat ob0)) = false from (by rw [c2,mN,Aa c4,c6];rfl)];rw [Aa (by decide)];show _ = if (_ : Bool) = true then _ else _;unfold mx3;rw [c8];rfl))
    ·
     refine zM (zA (zJ 1100 ?_));refine zL ?_;exact u4 rfl (u10 (by rw [gQ,show (Lib.contains (wT (h.getD n.toNat ob0).kind).data.toList [110] && !mN (h.getD n.toNat ob0)) = false from (by rw [c2,mN,Aa c4,c6];rfl)];rw [Aa (by decide)];show _ = if (_ : Bool) = true then _ else _;unfold mx3;rw [c8];rfl))
 ·
  refine zM (zA (zB (zJ 900 ?_)));refine zT rfl (fun c8 => ?_) (fun c8 => ?_)
  ·
   refine zJ 1000 ?_;refine zL (zN ?_);exact u4 rfl (u10 (by rw [gQ,show (Lib.contains (wT (h.getD n.toNat ob0).kind).data.toList [110] && !mN (h.getD n.toNat ob0)) = false from (by rw [c2];rfl)];rw [Aa (by decide)];show _ = if (_ : Bool) = true then _ else _;unfold mx3;rw [c8];rfl))
  ·
   refine zM (zA (zJ 1100 ?_));refine zL ?_;exact u4 rfl (u10 (by rw [gQ,show (Lib.contains (wT (h.getD n.toNat ob0).kind).data.toList [110] && !mN (h.getD n.toNat ob0)) = false from (by rw [c2];rfl)];rw [Aa (by decide)];show _ = if (_ : Bool) = true then _ else _;unfold mx3;rw [c8];rfl))
theorem names_ok (h : List Ob) (n : Int) (hn : inH h n) (hh : HpIn h) : Fn Tryz.prog 81 [hpD md h,.v (.int .i64 n)] (.v (.int .i64 (bH0 (h.getD n.toNat ob0)))) := by
 have hnl := (show ObIn (h.getD n.toNat ob0) from hh.at n).nl;refine yE zK Tryz.func81 rfl rfl rfl rfl rfl rfl ?_;intro w0 s0 mx;refine zJ 100 ?_;refine zB (zE zK [] 200 rfl ?_);repeat (first | refine zG ?_ | refine zH ?_ | refine zW (by exact hn) ?_)
 refine zC (zA (zB (zJ 300 ?_)));refine zR ?_;refine yC (ι := Sc (h.getD n.toNat ob0).names nmF) [5,14,15] [] 350 (fun x => [(16,.v (.int .i64 x.k))]) (fun _ => []) (fun x => (h.getD n.toNat ob0).names.length - x.k) (Sc.start _ _) ?_;refine ⟨⟨yK,yH,rfl,rfl⟩,fun x => ?_⟩;have hk := x.le;refine zJ 400 ?_;refine zB (zY (fun c3 => ?_) (fun c3 => ?_))
 ·
  refine zM (zA (zB (zR (zJ 500 ?_))));refine zB ?_;refine zB (zE zK [] 600 rfl ?_);refine zF ?_;refine zP _ (zK0 _) rfl ?_;refine zF ?_;refine zC (zA (zY (fun c5 => ?_) (fun c5 => ?_)))
  ·
   refine zJ 700 ?_;refine zL (zN (zQ (zN (yL (zQ (zN ?_))))));exact u4 rfl (u10 (x.here (e := ByteArray.empty) c3 (by rw [nmF,Ae c5])))
  ·
   refine zM (zA ?_);refine zB (zE zK [] 800 rfl ?_);refine zF ?_;refine zP _ (HasString_ok _ _) rfl ?_;refine zF ?_;refine zC (zA (zT rfl (fun c7 => ?_) (fun c7 => ?_)))
   ·
    refine zJ 900 ?_;refine zL (zQ (zN (yL (zQ (zN ?_)))));exact u4 rfl (u10 (x.here (e := ByteArray.empty) c3 (by rw [nmF,Aa (by rw [c5];decide),Ae (show hasB ((h.getD n.toNat ob0).names.take x.k) _ = true from c7)])))
   ·
    refine zM (zO (zA (yM zK [] 1000 ?_)));exact zS (x.next (e := ByteArray.empty) c3 (by rw [nmF,Aa (by rw [c5];decide),Aa (by rw [show hasB ((h.getD n.toNat ob0).names.take x.k) _ = false from c7];decide)])) ⟨yK,yH,rfl,rfl⟩ (by show (h.getD n.toNat ob0).names.length - (x.k + 1) < (h.getD n.toNat ob0).names.length - x.k;omega)
 ·
  refine yD (yA (yB (zX (zA (zJ 1100 ?_)))));refine zL ?_;exact u4 rfl (u10 (x.done c3 rfl))
end Go.Proofs.YtinegkcbkefeiaaGreatDoor
