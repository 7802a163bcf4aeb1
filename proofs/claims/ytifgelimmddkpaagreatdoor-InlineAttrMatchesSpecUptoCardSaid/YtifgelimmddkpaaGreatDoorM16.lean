/- Part 16 of the proof. -/
import Derived.Test.YtifgelimmddkpaaGreatDoorM15
namespace Go.Proofs.YtifgelimmddkpaaGreatDoor
open Go.RowKit
variable {md me : Bool}
structure ObIn (o : Ob) : Prop where
 kd : -9223372036854775808 ≤ o.kind ∧ o.kind ≤ 9223372036854775807
 cl : -9223372036854775808 ≤ o.cls ∧ o.cls ≤ 9223372036854775807
 co : -9223372036854775808 ≤ o.code ∧ o.code ≤ 9223372036854775807
 st : -9223372036854775808 ≤ o.state ∧ o.state ≤ 9223372036854775807
 nm : o.name.size ≤ 2000000
 rl : o.refs.length ≤ 2000000
 ol : o.order.length ≤ 2000000
 nl : o.names.length ≤ 2000000
 il : o.items.length ≤ 2000000
 kl : o.keys.length ≤ 2000000
 ns : ∀ s ∈ o.names,s.size ≤ 2000000
 iv : ∀ v ∈ o.items,VlIn v
 kv : ∀ v ∈ o.keys,VlIn v
theorem tC0 : ObIn ob0 := ⟨by decide,by decide,by decide,by decide,by decide,by decide,by decide,by decide,by decide,by decide,(fun _ h => by cases h),(fun _ h => by cases h),(fun _ h => by cases h)⟩
structure HpIn (h : List Ob) : Prop where
 ob : ∀ o ∈ h,ObIn o
 len : h.length ≤ 2000000
theorem HpIn.at {h : List Ob} (hh : HpIn h) (n : Int) : ObIn (zX h n) := by
 show ObIn (h.getD n.toNat ob0);rw [Ai]
 cases hq : h[n.toNat]? with
 | none => exact tC0
 | some o => exact hh.ob o (Bb hq)
theorem VlIn.zero {v : Vl} (h : VlIn v) : VlIn { v with k := 0 } := ⟨(by decide : (-9223372036854775808 : Int) ≤ 0),(by decide : (0 : Int) ≤ 9223372036854775807),h.r1,h.r2,h.nl,h.dl,h.nn,h.dn,h.s⟩
theorem vV0 : VlIn vl0 := ⟨by decide,by decide,by decide,by decide,(fun _ h => by cases h),(fun _ h => by cases h),by decide,by decide,by decide⟩
theorem mX {l : List Vl} (h : ∀ v ∈ l,VlIn v) (n : Nat) : VlIn (l.getD n vl0) := by
 rw [Ai]
 cases hq : l[n]? with
 | none => exact vV0
 | some v => exact h v (Bb hq)
def lettersB : ByteArray := ⟨#[110,99,114,97,107,100,115]⟩
def bD (b : Bool) : List D := [.v (.bool b)]
def jS0 (o : Ob) : List Bool := [decide (o.name = ⟨#[]⟩),decide (o.cls = 0),decide ((o.refs.length : Int) = 0),decide ((o.names.length : Int) = 0),decide ((o.keys.length : Int) = 0),decide (o.code = 0),decide (o.state = 0)]
def ltP (o : Ob) (i : Nat) : Bool := !(!((jS0 o).getD ((i : Int)).toNat false) && !(Lib.contains (jY o.kind).data.toList (lettersB.extract ((i : Int)).toNat ((i : Int) + 1).toNat).data.toList))
abbrev bO (u : ByteArray) : Int := (bAt u ((u.size : Int) - 1).toNat : Nat)
def cntS (o : Ob) : Int := if jY o.kind = ⟨#[]⟩ then 0 else if bO (jY o.kind) = 42 then o.items.length else if bO (jY o.kind) = 61 then o.names.length else if bO (jY o.kind) = 58 then o.keys.length else IntKind.i64.wrap (IntKind.u8.wrap (bO (jY o.kind) - 48))
def vW (o : Ob) : Bool := ((((!decide ((o.items.length : Int) = cntS o) || decide (o.code < 0)) || decide (o.state < 0)) || decide (xW o.kind < o.state)) || (!decide (o.kind = 9) && decide (0 < (o.order.length : Int))))
def jS (o : Ob) : Int := if (List.range 7).all (ltP o) = true then (if vW o = true then 6 else 0) else 6
theorem yZ0 (k : Int) : (jY k).size ≤ 100 := by
 have h : ∀ u ∈ usesL,u.size ≤ 100 := by decide +kernel
 show (usesL.getD k.toNat ByteArray.empty).size ≤ 100;rw [Ai]
 cases hq : usesL[k.toNat]? with
 | none => decide
 | some u => exact h u (Bb hq)
theorem wH0 {u : ByteArray} (h : ¬ u = ⟨#[]⟩) : 0 < u.size := by
 rcases Cu u.size with h0 | h0
 ·exact absurd (bB h0) h
 ·exact h0
def xS (o : Ob) : Bool := if o.kind = 11 then dotS o.name else uZ o.name
def mx3 (a b c : Int) : Int := if (if a < b then b else a) < c then c else (if a < b then b else a)
def vO (o : Ob) : Int := if (Lib.contains (jY o.kind).data.toList [110] && !xS o) = true then 7 else if (decide (1000 < mx3 o.items.length o.keys.length o.refs.length) || decide (200 < (o.names.length : Int))) = true then 2 else 0
structure Sc {α β : Type} (l : List α) (F : List α → List α → β) where
 k : Nat
 le : k ≤ l.length
 eq : F (l.take k) (l.drop k) = F [] l
theorem yM0 {α : Type} {l : List α} {k : Nat} (h : k < l.length) (e : α) : l.drop k = l.getD (k : Int).toNat e :: l.drop (k + 1) := by rw [gX h,Dk h]
theorem yZ {α : Type} {l : List α} {k : Nat} (h : k < l.length) (e : α) : l.take (k + 1) = l.take k ++ [l.getD (k : Int).toNat e] := by rw [gX h,Cp h]
def Sc.start {α β : Type} (l : List α) (F : List α → List α → β) : Sc l F := ⟨0,Ap _,rfl⟩
def Sc.next {α β : Type} {l : List α} {F : List α → List α → β} {e : α} (x : Sc l F) (h1 : x.k < l.length) (h2 : F (l.take x.k) (l.getD (x.k : Int).toNat e :: l.drop (x.k + 1)) = F (l.take x.k ++ [l.getD (x.k : Int).toNat e]) (l.drop (x.k + 1))) : Sc l F := ⟨x.k + 1,by omega,by
 rw [yZ h1 e,← h2,← yM0 h1 e];exact x.eq⟩
theorem Sc.here {α β : Type} {l : List α} {F : List α → List α → β} {e : α} (x : Sc l F) (h1 : x.k < l.length) {n : β} (h2 : F (l.take x.k) (l.getD (x.k : Int).toNat e :: l.drop (x.k + 1)) = n) : n = F [] l := by
 rw [← h2,← yM0 h1 e];exact x.eq
theorem Sc.done {α β : Type} {l : List α} {F : List α → List α → β} (x : Sc l F) (h1 : ¬ x.k < l.length) {n : β} (h2 : F l [] = n) : n = F [] l := by
 have := x.eq;rw [An (by omega),Bx (by omega),h2] at this;exact this
def nmF : List ByteArray → List ByteArray → Int
 | _,[] => 0
 | seen,s :: r => if uZ s = false then 7 else if jF seen s = true then 8 else nmF (seen ++ [s]) r
def pA0 (o : Ob) : Int := nmF [] o.names
def fixV (o : Ob) (v : Vl) : Vl := if v.k = 9 ∧ (o.kind = 6 ∨ o.kind = 17) then { v with k := 0 } else v
def jP : List Vl → List Int
 | [] => []
 | v :: l => if v.k = 6 then v.r :: jP l else jP l
theorem jN : ∀ l m : List Vl,jP (l ++ m) = jP l ++ jP m
 | [],_ => rfl
 | v :: l,m => by
  rw [List.cons_append,jP,jP,jN l m];split <;> rfl
theorem gK : ∀ l : List Vl,(jP l).length ≤ l.length
 | [] => Ar _
 | v :: l => by
  rw [jP];split
  ·simp;exact gK l
  ·simp;have := gK l;omega
def xR (o : Ob) : List Int := [o.cls] ++ o.refs ++ o.order
def vH (o : Ob) : List Int := (xR o ++ jP (o.keys ++ o.items)) ++ (if o.kind = 18 ∧ o.state ≠ 0 then [IntKind.i64.wrap (o.state - 1)] else [])
def uX (h : List Ob) (o : Ob) : Int := if ((o.keys ++ o.items).all fun v => jJ (fixV o v)) = true then (if (vH o).all (yO h) = true then 0 else 4) else 6
theorem yO1 {P : Program} {K : DS → Prop} {p : Prop} {r : Out} (hr : r.sat P K) (hp : p := by first | exact trivial | omega | exact ini (by omega) (by omega) | (intro hh;simp at hh;exact ini (by omega) (by omega)) | (intro hh;simp at hh ⊢;omega) | (simp at *;omega) | (simp_all;done) | (intro hh;exact ⟨by omega,by omega,by show (x.k : Int) + 1 ≤ ((lettersB.size : Nat) : Int);have : lettersB.size = 7 := rfl;omega⟩)) : (Out.need p r).sat P K := ⟨hp,hr⟩
theorem shape_ok (h : List Ob) (n : Int) (hn : inH h n) (hk : 0 ≤ (h.getD n.toNat ob0).kind ∧ (h.getD n.toNat ob0).kind < 21) : Fn Tryz.prog 82 [hpD md h,.v (.int .i64 n)] (.v (.int .i64 (jS (h.getD n.toNat ob0)))) := by
 have hus := yZ0 (h.getD n.toNat ob0).kind;refine yL zJ Tryz.func82 rfl rfl rfl rfl rfl rfl ?_;intro w0 s0 mx;refine zL 100 ?_;refine zB (zE zJ [] 200 rfl ?_);repeat (first | refine zG ?_ | refine zH ?_ | refine zW (by exact hn) ?_)
 refine zC (zA ?_);refine zB (zE zJ [] 300 rfl ?_);refine zF ?_;refine zT _ (kJ0 _ hk) rfl ?_;refine zF ?_;refine zC (zA (zL 400 ?_));refine zL 500 ?_;refine zB (zL 600 ?_);refine zR ?_;refine yC (ι := Up 7 (ltP (h.getD n.toNat ob0))) [5,6,7] [105] 650 (fun x => [(47,.v (.int .i64 x.k)),(46,.v (.int .i64 7)),(8,.sl false 1 (jS0 (h.getD n.toNat ob0)) bD false),(45,.sl false 1 (jS0 (h.getD n.toNat ob0)) bD false)]) (fun _ => []) (fun x => 7 - x.k) ⟨0,Ap _,fun j hj => by omega⟩ ?_;refine ⟨⟨yG,yD,rfl,rfl⟩,fun x => ?_⟩;have hk7 := x.le;have hem : (jS0 (h.getD n.toNat ob0)).length = 7 := rfl;refine zL 700 ?_;refine zB (zS rfl (fun c6 => ?_) (fun c6 => ?_))
 ·replace c6 : x.k < 7 := by have := Af c6;omega
  refine zN (zA (zB (zR (zL 800 ?_))));refine zB (zE zJ [] 900 rfl ?_);repeat (first | refine zG ?_ | refine zH ?_ | refine yO1 ?_)
  refine yS _ (fun hg12 => tO _ _ (by omega)) rfl ?_;repeat (first | refine zG ?_ | refine zH ?_ | refine yO1 ?_)
  refine zC (zA (zS rfl (fun c8 => ?_) (fun c8 => ?_)))
  ·
   refine zL 1000 ?_;refine zK (zQ (zM (yU (zQ (zM ?_)))));exact FinV.ret rfl (SubP.int (by rw [jS,Up.no (p := ltP (h.getD n.toNat ob0)) c6 (congrArg Bool.not c8)];rfl))
  ·
   refine zN (zP (zA (yT zJ [] 1100 ?_)));exact zV (x.next (by omega) (congrArg Bool.not c8)) ⟨yG,yD,rfl,rfl⟩ (by show 7 - (x.k + 1) < 7 - x.k;omega)
 ·replace c6 : ¬ x.k < 7 := by have := of_decide_eq_false c6;omega
  refine yF (yA (yB (zY (zA (zL 1200 ?_)))));refine zB (zL 1300 ?_);refine zZ (fun c12 => ?_) (fun c12 => ?_)
  ·
   refine zB (zE zJ [] 1400 rfl ?_);repeat (first | refine zG ?_ | refine zH ?_ | refine zW (by first | exact ini (by have := wH0 c12;omega) (by omega) | (have := wH0 c12;omega)) ?_)
   refine zC (zA (zL 1500 ?_));refine zR (zL 1700 ?_);refine zZ (fun c16 => ?_) (fun c16 => ?_)
   ·
    refine yT zJ [] 1800 ?_;refine zP (zA (zB ?_));refine zB (zU zJ [] mK4 2300 yP (by kernel_rfl) rfl ?_);refine zF ?_;refine yS _ (fun hg20 => vQ _) rfl ?_;refine zF ?_;refine zC (zA (zS rfl (fun c22 => ?_) (fun c22 => ?_)))
    ·
     refine zL 2400 ?_;refine zK (zM ?_);exact FinV.ret rfl (SubP.int (by rw [jS,Ab (x.yes c6),(show vW (h.getD n.toNat ob0) = true from (by rw [vW,cntS,Aa c12,Ab c16];exact c22))];rfl))
    ·
     refine zN (zA (zL 2500 ?_));refine zK ?_;exact FinV.ret rfl (SubP.int (by rw [jS,Ab (x.yes c6),(show vW (h.getD n.toNat ob0) = false from (by rw [vW,cntS,Aa c12,Ab c16];exact c22))];rfl))
   ·
    refine zL 1900 ?_;refine zZ (fun c18 => ?_) (fun c18 => ?_)
    ·
     refine yT zJ [] 2000 ?_;refine zP (zA (zB ?_));refine zB (zU zJ [] mK4 2300 yP (by kernel_rfl) rfl ?_);refine zF ?_;refine yS _ (fun hg20 => vQ _) rfl ?_;refine zF ?_;refine zC (zA (zS rfl (fun c22 => ?_) (fun c22 => ?_)))
     ·
      refine zL 2400 ?_;refine zK (zM ?_);exact FinV.ret rfl (SubP.int (by rw [jS,Ab (x.yes c6),(show vW (h.getD n.toNat ob0) = true from (by rw [vW,cntS,Aa c12,Aa c16,Ab c18];exact c22))];rfl))
     ·
      refine zN (zA (zL 2500 ?_));refine zK ?_;exact FinV.ret rfl (SubP.int (by rw [jS,Ab (x.yes c6),(show vW (h.getD n.toNat ob0) = false from (by rw [vW,cntS,Aa c12,Aa c16,Ab c18];exact c22))];rfl))
    ·
     refine zL 2100 ?_;refine zZ (fun c20 => ?_) (fun c20 => ?_)
     ·
      refine yT zJ [] 2200 ?_;refine zP (zA (zB ?_));refine zB (zU zJ [] mK4 2300 yP (by kernel_rfl) rfl ?_);refine zF ?_;refine yS _ (fun hg20 => vQ _) rfl ?_;refine zF ?_;refine zC (zA (zS rfl (fun c22 => ?_) (fun c22 => ?_)))
      ·
       refine zL 2400 ?_;refine zK (zM ?_);exact FinV.ret rfl (SubP.int (by rw [jS,Ab (x.yes c6),(show vW (h.getD n.toNat ob0) = true from (by rw [vW,cntS,Aa c12,Aa c16,Aa c18,Ab c20];exact c22))];rfl))
      ·
       refine zN (zA (zL 2500 ?_));refine zK ?_;exact FinV.ret rfl (SubP.int (by rw [jS,Ab (x.yes c6),(show vW (h.getD n.toNat ob0) = false from (by rw [vW,cntS,Aa c12,Aa c16,Aa c18,Ab c20];exact c22))];rfl))
     ·
      refine yT zJ [] 2200 ?_;refine zP (zA (zB ?_));refine zB (zU zJ [] mK4 2300 yP (by kernel_rfl) rfl ?_);refine zF ?_;refine yS _ (fun hg20 => vQ _) rfl ?_;refine zF ?_;refine zC (zA (zS rfl (fun c22 => ?_) (fun c22 => ?_)))
      ·
       refine zL 2400 ?_;refine zK (zM ?_);exact FinV.ret rfl (SubP.int (by rw [jS,Ab (x.yes c6),(show vW (h.getD n.toNat ob0) = true from (by rw [vW,cntS,Aa c12,Aa c16,Aa c18,Aa c20];exact c22))];rfl))
      ·
       refine zN (zA (zL 2500 ?_));refine zK ?_;exact FinV.ret rfl (SubP.int (by rw [jS,Ab (x.yes c6),(show vW (h.getD n.toNat ob0) = false from (by rw [vW,cntS,Aa c12,Aa c16,Aa c18,Aa c20];exact c22))];rfl))
  ·
   refine zN (zA (zB ?_));refine zB (zU zJ [] mK4 2300 yP (by kernel_rfl) rfl ?_);refine zF ?_;refine yS _ (fun hg20 => vQ _) rfl ?_;refine zF ?_;refine zC (zA (zS rfl (fun c22 => ?_) (fun c22 => ?_)))
   ·
    refine zL 2400 ?_;refine zK (zM ?_);exact FinV.ret rfl (SubP.int (by rw [jS,Ab (x.yes c6),(show vW (h.getD n.toNat ob0) = true from (by rw [vW,cntS,Ab c12];exact c22))];rfl))
   ·
    refine zN (zA (zL 2500 ?_));refine zK ?_;exact FinV.ret rfl (SubP.int (by rw [jS,Ab (x.yes c6),(show vW (h.getD n.toNat ob0) = false from (by rw [vW,cntS,Ab c12];exact c22))];rfl))
theorem sizes_ok (h : List Ob) (n : Int) (hn : inH h n) (hk : 0 ≤ (h.getD n.toNat ob0).kind ∧ (h.getD n.toNat ob0).kind < 21) (hh : HpIn h) : Fn Tryz.prog 83 [hpD md h,.v (.int .i64 n)] (.v (.int .i64 (vO (h.getD n.toNat ob0)))) := by
 have hus := yZ0 (h.getD n.toNat ob0).kind;have hnm := (show ObIn (h.getD n.toNat ob0) from hh.at n).nm;refine yL zJ Tryz.func83 rfl rfl rfl rfl rfl rfl ?_;intro w0 s0 mx;refine zL 100 ?_;refine zB (zE zJ [] 200 rfl ?_);repeat (first | refine zG ?_ | refine zH ?_ | refine zW (by exact hn) ?_)
 refine zC (zA (zB ?_));refine zB (zE zJ [] 300 rfl ?_);refine zF ?_;refine zT _ (kJ0 _ hk) rfl ?_;refine zF ?_;refine zT _ (tO _ _ (by omega)) rfl ?_;refine zF ?_;refine zC (zA (zS rfl (fun c2 => ?_) (fun c2 => ?_)))
 ·
  refine zB (zE zJ [] 400 rfl ?_);refine zF ?_;refine zT _ (mT _) rfl ?_;refine zF ?_;refine zC (zA (zB (zL 500 ?_)));refine zZ (fun c4 => ?_) (fun c4 => ?_)
  ·
   refine zE zJ [] 600 rfl ?_;refine zF ?_;refine zT _ (tN _ (by first | assumption | omega | (simp_all;done))) rfl ?_;refine zF ?_;refine zC (zA (zL 700 ?_));refine zS rfl (fun c6 => ?_) (fun c6 => ?_)
   ·simp only [Bc] at c6;refine zL 800 ?_;refine zK (zM ?_);exact FinV.ret rfl (SubP.int (by rw [vO,show (Lib.contains (jY (h.getD n.toNat ob0).kind).data.toList [110] && !xS (h.getD n.toNat ob0)) = true from (by rw [c2,xS,Ab c4,c6];rfl)];rfl))
   ·simp only [Bo] at c6;refine zN (zA (zB (zL 900 ?_)));refine zS rfl (fun c8 => ?_) (fun c8 => ?_)
    ·
     refine zL 1000 ?_;refine zK (zM ?_);exact FinV.ret rfl (SubP.int (by rw [vO,show (Lib.contains (jY (h.getD n.toNat ob0).kind).data.toList [110] && !xS (h.getD n.toNat ob0)) = false from (by rw [c2,xS,Ab c4,c6];rfl)];rw [Aa (by decide)];show _ = if (_ : Bool) = true then _ else _;unfold mx3;rw [c8];rfl))
    ·
     refine zN (zA (zL 1100 ?_));refine zK ?_;exact FinV.ret rfl (SubP.int (by rw [vO,show (Lib.contains (jY (h.getD n.toNat ob0).kind).data.toList [110] && !xS (h.getD n.toNat ob0)) = false from (by rw [c2,xS,Ab c4,c6];rfl)];rw [Aa (by decide)];show _ = if (_ : Bool) = true then _ else _;unfold mx3;rw [c8];rfl))
  ·
   refine zN (zA (zL 700 ?_));refine zS rfl (fun c6 => ?_) (fun c6 => ?_)
   ·simp only [Bc] at c6;refine zL 800 ?_;refine zK (zM ?_);exact FinV.ret rfl (SubP.int (by rw [vO,show (Lib.contains (jY (h.getD n.toNat ob0).kind).data.toList [110] && !xS (h.getD n.toNat ob0)) = true from (by rw [c2,xS,Aa c4,c6];rfl)];rfl))
   ·simp only [Bo] at c6;refine zN (zA (zB (zL 900 ?_)));refine zS rfl (fun c8 => ?_) (fun c8 => ?_)
    ·
     refine zL 1000 ?_;refine zK (zM ?_);exact FinV.ret rfl (SubP.int (by rw [vO,show (Lib.contains (jY (h.getD n.toNat ob0).kind).data.toList [110] && !xS (h.getD n.toNat ob0)) = false from (by rw [c2,xS,Aa c4,c6];rfl)];rw [Aa (by decide)];show _ = if (_ : Bool) = true then _ else _;unfold mx3;rw [c8];rfl))
    ·
     refine zN (zA (zL 1100 ?_));refine zK ?_;exact FinV.ret rfl (SubP.int (by rw [vO,show (Lib.contains (jY (h.getD n.toNat ob0).kind).data.toList [110] && !xS (h.getD n.toNat ob0)) = false from (by rw [c2,xS,Aa c4,c6];rfl)];rw [Aa (by decide)];show _ = if (_ : Bool) = true then _ else _;unfold mx3;rw [c8];rfl))
 ·
  refine zN (zA (zB (zL 900 ?_)));refine zS rfl (fun c8 => ?_) (fun c8 => ?_)
  ·
   refine zL 1000 ?_;refine zK (zM ?_);exact FinV.ret rfl (SubP.int (by rw [vO,show (Lib.contains (jY (h.getD n.toNat ob0).kind).data.toList [110] && !xS (h.getD n.toNat ob0)) = false from (by rw [c2];rfl)];rw [Aa (by decide)];show _ = if (_ : Bool) = true then _ else _;unfold mx3;rw [c8];rfl))
  ·
   refine zN (zA (zL 1100 ?_));refine zK ?_;exact FinV.ret rfl (SubP.int (by rw [vO,show (Lib.contains (jY (h.getD n.toNat ob0).kind).data.toList [110] && !xS (h.getD n.toNat ob0)) = false from (by rw [c2];rfl)];rw [Aa (by decide)];show _ = if (_ : Bool) = true then _ else _;unfold mx3;rw [c8];rfl))
theorem names_ok (h : List Ob) (n : Int) (hn : inH h n) (hh : HpIn h) : Fn Tryz.prog 84 [hpD md h,.v (.int .i64 n)] (.v (.int .i64 (pA0 (h.getD n.toNat ob0)))) := by
 have hnl := (show ObIn (h.getD n.toNat ob0) from hh.at n).nl;refine yL zJ Tryz.func84 rfl rfl rfl rfl rfl rfl ?_;intro w0 s0 mx;refine zL 100 ?_;refine zB (zE zJ [] 200 rfl ?_);repeat (first | refine zG ?_ | refine zH ?_ | refine zW (by exact hn) ?_)
 refine zC (zA (zB (zL 300 ?_)));refine zR ?_;refine yC (ι := Sc (h.getD n.toNat ob0).names nmF) [5,14,15] [] 350 (fun x => [(16,.v (.int .i64 x.k))]) (fun _ => []) (fun x => (h.getD n.toNat ob0).names.length - x.k) (Sc.start _ _) ?_;refine ⟨⟨yG,yD,rfl,rfl⟩,fun x => ?_⟩;have hk := x.le;refine zL 400 ?_;refine zB (zZ (fun c3 => ?_) (fun c3 => ?_))
 ·
  refine zN (zA (zB (zR (zL 500 ?_))));refine zB ?_;refine zB (zE zJ [] 600 rfl ?_);refine zF ?_;refine zT _ (mT _) rfl ?_;refine zF ?_;refine zC (zA (zZ (fun c5 => ?_) (fun c5 => ?_)))
  ·
   refine zL 700 ?_;refine zK (zM (zQ (zM (yU (zQ (zM ?_))))));exact FinV.ret rfl (SubP.int (x.here (e := ByteArray.empty) c3 (by rw [nmF,Ab c5])))
  ·
   refine zN (zA ?_);refine zB (zE zJ [] 800 rfl ?_);refine zF ?_;refine zT _ (HasString_ok _ _) rfl ?_;refine zF ?_;refine zC (zA (zS rfl (fun c7 => ?_) (fun c7 => ?_)))
   ·
    refine zL 900 ?_;refine zK (zQ (zM (yU (zQ (zM ?_)))));exact FinV.ret rfl (SubP.int (x.here (e := ByteArray.empty) c3 (by rw [nmF,Aa (by rw [c5];decide),Ab (show jF ((h.getD n.toNat ob0).names.take x.k) _ = true from c7)])))
   ·
    refine zN (zP (zA (yT zJ [] 1000 ?_)));exact zV (x.next (e := ByteArray.empty) c3 (by rw [nmF,Aa (by rw [c5];decide),Aa (by rw [show jF ((h.getD n.toNat ob0).names.take x.k) _ = false from c7];decide)])) ⟨yG,yD,rfl,rfl⟩ (by show (h.getD n.toNat ob0).names.length - (x.k + 1) < (h.getD n.toNat ob0).names.length - x.k;omega)
 ·
  refine yF (yA (yB (zY (zA (zL 1100 ?_)))));refine zK ?_;exact FinV.ret rfl (SubP.int (x.done c3 rfl))
end Go.Proofs.YtifgelimmddkpaaGreatDoor
