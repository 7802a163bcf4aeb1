/- Part 16 of the proof. -/
import Derived.Test.YtinegkcbkefeiaaGreatDoorN15
namespace Go.Proofs.YtinegkcbkefeiaaGreatDoor
open Go.RowKit
variable {md me : Bool}
structure ObIn (o : Ob) : Prop where
 kd : -9223372036854775808 <= o.kind /\ o.kind <= 9223372036854775807
 cl : -9223372036854775808 <= o.cls /\ o.cls <= 9223372036854775807
 co : -9223372036854775808 <= o.code /\ o.code <= 9223372036854775807
 st : -9223372036854775808 <= o.state /\ o.state <= 9223372036854775807
 nm : o.name.size <= 2000000
 rl : o.refs.length <= 2000000
 ol : o.order.length <= 2000000
 nl : o.names.length <= 2000000
 il : o.items.length <= 2000000
 kl : o.keys.length <= 2000000
 ns : ∀ s ∈ o.names,s.size <= 2000000
 iv : ∀ v ∈ o.items,VlIn v
 kv : ∀ v ∈ o.keys,VlIn v
theorem zM1 : ObIn ob0 := ⟨by decide,by decide,by decide,by decide,by decide,by decide,by decide,by decide,by decide,by decide,(fun _ h => by cases h),(fun _ h => by cases h),(fun _ h => by cases h)⟩
structure HpIn (h : List Ob) : Prop where
 ob : ∀ o ∈ h,ObIn o
 len : h.length <= 2000000
theorem HpIn.at {h : List Ob} (hh : HpIn h) (n : Int) : ObIn (yJ h n) := by
 show ObIn (h.getD n.toNat ob0);rw [An]
 cases hq : h[n.toNat]? with
 | none => exact zM1
 | some o => exact hh.ob o (Bh hq)
theorem VlIn.zero {v : Vl} (h : VlIn v) : VlIn { v with k := 0 } := ⟨(by decide : (-9223372036854775808 : Int) <= 0),(by decide : (0 : Int) <= 9223372036854775807),h.r1,h.r2,h.nl,h.dl,h.nn,h.dn,h.s⟩
theorem vl0_in : VlIn vl0 := ⟨by decide,by decide,by decide,by decide,(fun _ h => by cases h),(fun _ h => by cases h),by decide,by decide,by decide⟩
theorem dJ {l : List Vl} (h : ∀ v ∈ l,VlIn v) (n : Nat) : VlIn (l.getD n vl0) := by
 rw [An]
 cases hq : l[n]? with
 | none => exact vl0_in
 | some v => exact h v (Bh hq)
def lettersB : ByteArray := ⟨#[110,99,114,97,107,100,115]⟩
def bD (b : Bool) : List D := [.v (.bool b)]
def mJ0 (o : Ob) : List Bool := [decide (o.name = ⟨#[]⟩),decide (o.cls = 0),decide ((o.refs.length : Int) = 0),decide ((o.names.length : Int) = 0),decide ((o.keys.length : Int) = 0),decide (o.code = 0),decide (o.state = 0)]
def ltP (o : Ob) (i : Nat) : Bool := !(!((mJ0 o).getD ((i : Int)).toNat false) && !(Lib.contains (uU o.kind).data.toList (lettersB.extract ((i : Int)).toNat ((i : Int) + 1).toNat).data.toList))
abbrev zR0 (u : ByteArray) : Int := (bAt u ((u.size : Int) - 1).toNat : Nat)
def cntS (o : Ob) : Int := if uU o.kind = ⟨#[]⟩ then 0 else if zR0 (uU o.kind) = 42 then o.items.length else if zR0 (uU o.kind) = 61 then o.names.length else if zR0 (uU o.kind) = 58 then o.keys.length else IntKind.i64.wrap (IntKind.u8.wrap (zR0 (uU o.kind) - 48))
def wR (o : Ob) : Bool := ((((!decide ((o.items.length : Int) = cntS o) || decide (o.code < 0)) || decide (o.state < 0)) || decide (mJ o.kind < o.state)) || (!decide (o.kind = 9) && decide (0 < (o.order.length : Int))))
def uO (o : Ob) : Int := if (List.range 7).all (ltP o) = true then (if wR o = true then 6 else 0) else 6
theorem uF0 (k : Int) : (uU k).size <= 100 := by
 have h : ∀ u ∈ usesL,u.size <= 100 := by decide +kernel
 show (usesL.getD k.toNat ByteArray.empty).size <= 100;rw [An]
 cases hq : usesL[k.toNat]? with
 | none => decide
 | some u => exact h u (Bh hq)
theorem gU0 {u : ByteArray} (h : ¬ u = ⟨#[]⟩) : 0 < u.size := by
 rcases Bu u.size with h0 | h0
 ·exact absurd (tZ h0) h
 ·exact h0
def mO (o : Ob) : Bool := if o.kind = 11 then dotS o.name else kI o.name
def mx3 (a b c : Int) : Int := if (if a < b then b else a) < c then c else (if a < b then b else a)
def gT (o : Ob) : Int := if (Lib.contains (uU o.kind).data.toList [110] && !mO o) = true then 7 else if (decide (1000 < mx3 o.items.length o.keys.length o.refs.length) || decide (200 < (o.names.length : Int))) = true then 2 else 0
structure Sc {α β : Type} (l : List α) (F : List α -> List α -> β) where
 k : Nat
 le : k <= l.length
 eq : F (l.take k) (l.drop k) = F [] l
theorem jM0 {α : Type} {l : List α} {k : Nat} (h : k < l.length) (e : α) : l.drop k = l.getD (k : Int).toNat e :: l.drop (k + 1) := by rw [qN h,By h]
theorem jP {α : Type} {l : List α} {k : Nat} (h : k < l.length) (e : α) : l.take (k + 1) = l.take k ++ [l.getD (k : Int).toNat e] := by rw [qN h,Dq h]
def Sc.start {α β : Type} (l : List α) (F : List α -> List α -> β) : Sc l F := ⟨0,Ap _,rfl⟩
def Sc.next {α β : Type} {l : List α} {F : List α -> List α -> β} {e : α} (x : Sc l F) (h1 : x.k < l.length) (h2 : F (l.take x.k) (l.getD (x.k : Int).toNat e :: l.drop (x.k + 1)) = F (l.take x.k ++ [l.getD (x.k : Int).toNat e]) (l.drop (x.k + 1))) : Sc l F := ⟨x.k + 1,by omega,by
 rw [jP h1 e,<- h2,<- jM0 h1 e];exact x.eq⟩
theorem Sc.here {α β : Type} {l : List α} {F : List α -> List α -> β} {e : α} (x : Sc l F) (h1 : x.k < l.length) {n : β} (h2 : F (l.take x.k) (l.getD (x.k : Int).toNat e :: l.drop (x.k + 1)) = n) : n = F [] l := by
 rw [<- h2,<- jM0 h1 e];exact x.eq
theorem Sc.done {α β : Type} {l : List α} {F : List α -> List α -> β} (x : Sc l F) (h1 : ¬ x.k < l.length) {n : β} (h2 : F l [] = n) : n = F [] l := by
 have := x.eq;rw [Am om,Ax om,h2] at this;exact this
def nmF : List ByteArray -> List ByteArray -> Int
 | _,[] => 0
 | seen,s :: r => if kI s = false then 7 else if hasB seen s = true then 8 else nmF (seen ++ [s]) r
def bF0 (o : Ob) : Int := nmF [] o.names
def fixV (o : Ob) (v : Vl) : Vl := if v.k = 9 /\ (o.kind = 6 \/ o.kind = 17) then { v with k := 0 } else v
def jU : List Vl -> List Int
 | [] => []
 | v :: l => if v.k = 6 then v.r :: jU l else jU l
theorem jQ : ∀ l m : List Vl,jU (l ++ m) = jU l ++ jU m
 | [],_ => rfl
 | v :: l,m => by
  rw [List.cons_append,jU,jU,jQ l m];split <;> rfl
theorem kV : ∀ l : List Vl,(jU l).length <= l.length
 | [] => Ao _
 | v :: l => by
  rw [jU];split
  ·simp;exact kV l
  ·simp;have := kV l;omega
def kH (o : Ob) : List Int := [o.cls] ++ o.refs ++ o.order
def vO (o : Ob) : List Int := (kH o ++ jU (o.keys ++ o.items)) ++ (if o.kind = 18 /\ o.state ≠ 0 then [IntKind.i64.wrap (o.state - 1)] else [])
def vB (h : List Ob) (o : Ob) : Int := if ((o.keys ++ o.items).all fun v => qZ (fixV o v)) = true then (if (vO o).all (yY h) = true then 0 else 4) else 6
theorem jC1 {P : Program} {E : Pn} {K : DS -> Prop} {p : Prop} {r : Out} (hr : r.sat P E K) (hp : p := by first | exact trivial | omega | exact ini (by omega) (by omega) | (intro hh;simp at hh;exact ini om om) | (intro hh;simp at hh ⊢;omega) | (simp at *;omega) | (simp_all;done) | (intro hh;exact ⟨by omega,by omega,by show (x.k : Int) + 1 <= ((lettersB.size : Nat) : Int);have : lettersB.size = 7 := rfl;omega⟩)) : (Out.need p r).sat P E K := ⟨hp,hr⟩
theorem shape_ok (h : List Ob) (n : Int) (hn : inH h n) (hk : 0 <= (h.getD n.toNat ob0).kind /\ (h.getD n.toNat ob0).kind < 21) : Fx 79 [hpD md h,.v (.int .i64 n)] (.v (.int .i64 (uO (h.getD n.toNat ob0)))) := by
 have hus := uF0 (h.getD n.toNat ob0).kind;refine yD zL Tryz.func79 rfl rfl rfl rfl rfl rfl ?_;intros;refine zJ 100 ?_;refine zB (zE zL [] 200 rfl ?_);repeat (first | refine zH ?_ | refine zU (by exact hn) ?_)
 refine zC (zA ?_);refine zB (zE zL [] 300 rfl ?_);refine zF ?_;refine zO _ (pW0 _ hk) rfl ?_;refine zF ?_;refine zC (zA (zJ 400 ?_));refine zJ 500 ?_;refine zB (zJ 600 ?_);refine zR ?_;refine yC (ι := Up 7 (ltP (h.getD n.toNat ob0))) [5,6,7] [105] 650 (fun x => [(47,.v (.int .i64 x.k)),(46,.v (.int .i64 7)),(8,.sl false 1 (mJ0 (h.getD n.toNat ob0)) bD false),(45,.sl false 1 (mJ0 (h.getD n.toNat ob0)) bD false)]) (fun _ => []) (fun x => 7 - x.k) ⟨0,Ap _,fun j hj => by omega⟩ ?_;refine ⟨⟨yM,yH,rfl,rfl⟩,fun x => ?_⟩;have hk7 := x.le;have hem : (mJ0 (h.getD n.toNat ob0)).length = 7 := rfl;refine zJ 700 ?_;refine zB (zT rfl (fun c6 => ?_) (fun c6 => ?_))
 ·replace c6 : x.k < 7 := by have := Aj c6;omega
  refine zM (zA (zB (zR (zJ 800 ?_))));refine zB (zE zL [] 900 rfl ?_);repeat (first | refine zH ?_ | refine jC1 ?_)
  refine yK _ (fun hg12 => gR _ _ om) rfl ?_;repeat (first | refine zH ?_ | refine jC1 ?_)
  refine zC (zA (zT rfl (fun c8 => ?_) (fun c8 => ?_)))
  ·
   refine zJ 1000 ?_;refine zK (zQ (zN (yL (zQ (zN ?_)))));exact u4 rfl (u10 (by rw [uO,Up.no (p := ltP (h.getD n.toNat ob0)) c6 (congrArg Bool.not c8)];rfl))
  ·
   refine zM (zP (zA (yN zL [] 1100 ?_)));exact zS (x.next om (congrArg Bool.not c8)) ⟨yM,yH,rfl,rfl⟩ (by show 7 - (x.k + 1) < 7 - x.k;omega)
 ·replace c6 : ¬ x.k < 7 := by have := of_decide_eq_false c6;omega
  refine yE (yA (yB (zX (zA (zJ 1200 ?_)))));refine zB (zJ 1300 ?_);refine zW (fun c12 => ?_) (fun c12 => ?_)
  ·
   refine zB (zE zL [] 1400 rfl ?_);repeat (first | refine zH ?_ | refine zU (by first | exact ini (by have := gU0 c12;omega) om | (have := gU0 c12;omega)) ?_)
   refine zC (zA (zJ 1500 ?_));refine zR (zJ 1700 ?_);refine zW (fun c16 => ?_) (fun c16 => ?_)
   ·
    refine yN zL [] 1800 ?_;refine zP (zA (zB ?_));refine zB (zZ zL [] mK2 2300 yQ kr rfl ?_);refine zF ?_;refine yK _ (fun hg20 => wH _) rfl ?_;refine zF ?_;refine zC (zA (zT rfl (fun c22 => ?_) (fun c22 => ?_)))
    ·
     refine zJ 2400 ?_;refine zK (zN ?_);exact u4 rfl (u10 (by rw [uO,Ab (x.yes c6),(show wR (h.getD n.toNat ob0) = true from (by rw [wR,cntS,Aa c12,Ab c16];exact c22))];rfl))
    ·
     refine zM (zA (zJ 2500 ?_));refine zK ?_;exact u4 rfl (u10 (by rw [uO,Ab (x.yes c6),(show wR (h.getD n.toNat ob0) = false from (by rw [wR,cntS,Aa c12,Ab c16];exact c22))];rfl))
   ·
    refine zJ 1900 ?_;refine zW (fun c18 => ?_) (fun c18 => ?_)
    ·
     refine yN zL [] 2000 ?_;refine zP (zA (zB ?_));refine zB (zZ zL [] mK2 2300 yQ kr rfl ?_);refine zF ?_;refine yK _ (fun hg20 => wH _) rfl ?_;refine zF ?_;refine zC (zA (zT rfl (fun c22 => ?_) (fun c22 => ?_)))
     ·
      refine zJ 2400 ?_;refine zK (zN ?_);exact u4 rfl (u10 (by rw [uO,Ab (x.yes c6),(show wR (h.getD n.toNat ob0) = true from (by rw [wR,cntS,Aa c12,Aa c16,Ab c18];exact c22))];rfl))
     ·
      refine zM (zA (zJ 2500 ?_));refine zK ?_;exact u4 rfl (u10 (by rw [uO,Ab (x.yes c6),(show wR (h.getD n.toNat ob0) = false from (by rw [wR,cntS,Aa c12,Aa c16,Ab c18];exact c22))];rfl))
    ·
     refine zJ 2100 ?_;refine zW (fun c20 => ?_) (fun c20 => ?_)
     ·
      refine yN zL [] 2200 ?_;refine zP (zA (zB ?_));refine zB (zZ zL [] mK2 2300 yQ kr rfl ?_);refine zF ?_;refine yK _ (fun hg20 => wH _) rfl ?_;refine zF ?_;refine zC (zA (zT rfl (fun c22 => ?_) (fun c22 => ?_)))
      ·
       refine zJ 2400 ?_;refine zK (zN ?_);exact u4 rfl (u10 (by rw [uO,Ab (x.yes c6),(show wR (h.getD n.toNat ob0) = true from (by rw [wR,cntS,Aa c12,Aa c16,Aa c18,Ab c20];exact c22))];rfl))
      ·
       refine zM (zA (zJ 2500 ?_));refine zK ?_;exact u4 rfl (u10 (by rw [uO,Ab (x.yes c6),(show wR (h.getD n.toNat ob0) = false from (by rw [wR,cntS,Aa c12,Aa c16,Aa c18,Ab c20];exact c22))];rfl))
     ·
      refine yN zL [] 2200 ?_;refine zP (zA (zB ?_));refine zB (zZ zL [] mK2 2300 yQ kr rfl ?_);refine zF ?_;refine yK _ (fun hg20 => wH _) rfl ?_;refine zF ?_;refine zC (zA (zT rfl (fun c22 => ?_) (fun c22 => ?_)))
      ·
       refine zJ 2400 ?_;refine zK (zN ?_);exact u4 rfl (u10 (by rw [uO,Ab (x.yes c6),(show wR (h.getD n.toNat ob0) = true from (by rw [wR,cntS,Aa c12,Aa c16,Aa c18,Aa c20];exact c22))];rfl))
      ·
       refine zM (zA (zJ 2500 ?_));refine zK ?_;exact u4 rfl (u10 (by rw [uO,Ab (x.yes c6),(show wR (h.getD n.toNat ob0) = false from (by rw [wR,cntS,Aa c12,Aa c16,Aa c18,Aa c20];exact c22))];rfl))
  ·
   refine zM (zA (zB ?_));refine zB (zZ zL [] mK2 2300 yQ kr rfl ?_);refine zF ?_;refine yK _ (fun hg20 => wH _) rfl ?_;refine zF ?_;refine zC (zA (zT rfl (fun c22 => ?_) (fun c22 => ?_)))
   ·
    refine zJ 2400 ?_;refine zK (zN ?_);exact u4 rfl (u10 (by rw [uO,Ab (x.yes c6),(show wR (h.getD n.toNat ob0) = true from (by rw [wR,cntS,Ab c12];exact c22))];rfl))
   ·
    refine zM (zA (zJ 2500 ?_));refine zK ?_;exact u4 rfl (u10 (by rw [uO,Ab (x.yes c6),(show wR (h.getD n.toNat ob0) = false from (by rw [wR,cntS,Ab c12];exact c22))];rfl))
theorem sizes_ok (h : List Ob) (n : Int) (hn : inH h n) (hk : 0 <= (h.getD n.toNat ob0).kind /\ (h.getD n.toNat ob0).kind < 21) (hh : HpIn h) : Fx 80 [hpD md h,.v (.int .i64 n)] (.v (.int .i64 (gT (h.getD n.toNat ob0)))) := by
 have hus := uF0 (h.getD n.toNat ob0).kind;have hnm := (show ObIn (h.getD n.toNat ob0) from hh.at n).nm;refine yD zL Tryz.func80 rfl rfl rfl rfl rfl rfl ?_;intros;refine zJ 100 ?_;refine zB (zE zL [] 200 rfl ?_);repeat (first | refine zH ?_ | refine zU (by exact hn) ?_)
 refine zC (zA (zB ?_));refine zB (zE zL [] 300 rfl ?_);refine zF ?_;refine zO _ (pW0 _ hk) rfl ?_;refine zF ?_;refine zO _ (gR _ _ om) rfl ?_;refine zF ?_;refine zC (zA (zT rfl (fun c2 => ?_) (fun c2 => ?_)))
 ·
  refine zB (zE zL [] 400 rfl ?_);refine zF ?_;refine zO _ (zI0 _) rfl ?_;refine zF ?_;refine zC (zA (zB (zJ 500 ?_)));refine zW (fun c4 => ?_) (fun c4 => ?_)
  ·
   refine zE zL [] 600 rfl ?_;refine zF ?_;refine zO _ (zN0 _ ao) rfl ?_;refine zF ?_;refine zC (zA (zJ 700 ?_));refine zT rfl (fun c6 => ?_) (fun c6 => ?_)
   ·simp only [Bp] at c6;refine zJ 800 ?_;refine zK (zN ?_);exact u4 rfl (u10 (by rw [gT,show (Lib.contains (uU (h.getD n.toNat ob0).kind).data.toList [110] && !mO (h.getD n.toNat ob0)) = true from (by rw [c2,mO,Ab c4,c6];rfl)];rfl))
   ·simp only [Bw] at c6;refine zM (zA (zB (zJ 900 ?_)));refine zT rfl (fun c8 => ?_) (fun c8 => ?_)
    ·
     refine zJ 1000 ?_;refine zK (zN ?_);exact u4 rfl (u10 (by rw [gT,show (Lib.contains (uU (h.getD n.toNat ob0).kind).data.toList [110] && !mO (h.getD n.toNat ob0)) = false from (by rw [c2,mO,Ab c4,c6];rfl)];rw [Aa de];show _ = if (_ : Bool) = true then _ else _;unfold mx3;rw [c8];rfl))
    ·
     refine zM (zA (zJ 1100 ?_));refine zK ?_;exact u4 rfl (u10 (by rw [gT,show (Lib.contains (uU (h.getD n.toNat ob0).kind).data.toList [110] && !mO (h.getD n.toNat ob0)) = false from (by rw [c2,mO,Ab c4,c6];rfl)];rw [Aa de];show _ = if (_ : Bool) = true then _ else _;unfold mx3;rw [c8];rfl))
  ·
   refine zM (zA (zJ 700 ?_));refine zT rfl (fun c6 => ?_) (fun c6 => ?_)
   ·simp only [Bp] at c6;refine zJ 800 ?_;refine zK (zN ?_);exact u4 rfl (u10 (by rw [gT,show (Lib.contains (uU (h.getD n.toNat ob0).kind).data.toList [110] && !mO (h.getD n.toNat ob0)) = true from (by rw [c2,mO,Aa c4,c6];rfl)];rfl))
   ·simp only [Bw] at c6;refine zM (zA (zB (zJ 900 ?_)));refine zT rfl (fun c8 => ?_) (fun c8 => ?_)
    ·
     refine zJ 1000 ?_;refine zK (zN ?_);exact u4 rfl (u10 (by rw [gT,show (Lib.contains (uU (h.getD n.toNat ob0).kind).data.toList [110] && !mO (h.getD n.toNat ob0)) = false from (by rw [c2,mO,Aa c4,c6];rfl)];rw [Aa de];show _ = if (_ : Bool) = true then _ else _;unfold mx3;rw [c8];rfl))
    ·
     refine zM (zA (zJ 1100 ?_));refine zK ?_;exact u4 rfl (u10 (by rw [gT,show (Lib.contains (uU (h.getD n.toNat ob0).kind).data.toList [110] && !mO (h.getD n.toNat ob0)) = false from (by rw [c2,mO,Aa c4,c6];rfl)];rw [Aa de];show _ = if (_ : Bool) = true then _ else _;unfold mx3;rw [c8];rfl))
 ·
  refine zM (zA (zB (zJ 900 ?_)));refine zT rfl (fun c8 => ?_) (fun c8 => ?_)
  ·
   refine zJ 1000 ?_;refine zK (zN ?_);exact u4 rfl (u10 (by rw [gT,show (Lib.contains (uU (h.getD n.toNat ob0).kind).data.toList [110] && !mO (h.getD n.toNat ob0)) = false from (by rw [c2];rfl)];rw [Aa de];show _ = if (_ : Bool) = true then _ else _;unfold mx3;rw [c8];rfl))
  ·
   refine zM (zA (zJ 1100 ?_));refine zK ?_;exact u4 rfl (u10 (by rw [gT,show (Lib.contains (uU (h.getD n.toNat ob0).kind).data.toList [110] && !mO (h.getD n.toNat ob0)) = false from (by rw [c2];rfl)];rw [Aa de];show _ = if (_ : Bool) = true then _ else _;unfold mx3;rw [c8];rfl))
theorem names_ok (h : List Ob) (n : Int) (hn : inH h n) (hh : HpIn h) : Fx 81 [hpD md h,.v (.int .i64 n)] (.v (.int .i64 (bF0 (h.getD n.toNat ob0)))) := by
 have hnl := (show ObIn (h.getD n.toNat ob0) from hh.at n).nl;refine yD zL Tryz.func81 rfl rfl rfl rfl rfl rfl ?_;intros;refine zJ 100 ?_;refine zB (zE zL [] 200 rfl ?_);repeat (first | refine zH ?_ | refine zU (by exact hn) ?_)
 refine zC (zA (zB (zJ 300 ?_)));refine zR ?_;refine yC (ι := Sc (h.getD n.toNat ob0).names nmF) [5,14,15] [] 350 (fun x => [(16,.v (.int .i64 x.k))]) (fun _ => []) (fun x => (h.getD n.toNat ob0).names.length - x.k) (Sc.start _ _) ?_;refine ⟨⟨yM,yH,rfl,rfl⟩,fun x => ?_⟩;have hk := x.le;refine zJ 400 ?_;refine zB (zW (fun c3 => ?_) (fun c3 => ?_))
 ·
  refine zM (zA (zB (zR (zJ 500 ?_))));refine zB ?_;refine zB (zE zL [] 600 rfl ?_);refine zF ?_;refine zO _ (zI0 _) rfl ?_;refine zF ?_;refine zC (zA (zW (fun c5 => ?_) (fun c5 => ?_)))
  ·
   refine zJ 700 ?_;refine zK (zN (zQ (zN (yL (zQ (zN ?_))))));exact u4 rfl (u10 (x.here (e := ByteArray.empty) c3 (by rw [nmF,Ab c5])))
  ·
   refine zM (zA ?_);refine zB (zE zL [] 800 rfl ?_);refine zF ?_;refine zO _ (HasString_ok _ _) rfl ?_;refine zF ?_;refine zC (zA (zT rfl (fun c7 => ?_) (fun c7 => ?_)))
   ·
    refine zJ 900 ?_;refine zK (zQ (zN (yL (zQ (zN ?_)))));exact u4 rfl (u10 (x.here (e := ByteArray.empty) c3 (by rw [nmF,Aa (by rw [c5];decide),Ab (show hasB ((h.getD n.toNat ob0).names.take x.k) _ = true from c7)])))
   ·
    refine zM (zP (zA (yN zL [] 1000 ?_)));exact zS (x.next (e := ByteArray.empty) c3 (by rw [nmF,Aa (by rw [c5];decide),Aa (by rw [show hasB ((h.getD n.toNat ob0).names.take x.k) _ = false from c7];decide)])) ⟨yM,yH,rfl,rfl⟩ (by show (h.getD n.toNat ob0).names.length - (x.k + 1) < (h.getD n.toNat ob0).names.length - x.k;omega)
 ·
  refine yE (yA (yB (zX (zA (zJ 1100 ?_)))));refine zK ?_;exact u4 rfl (u10 (x.done c3 rfl))
end Go.Proofs.YtinegkcbkefeiaaGreatDoor
