/- Part 17 of the proof. -/
import Derived.Test.YtnajlcfdjjmfiaaGreatDoorM16
namespace Go.Proofs.YtnajlcfdjjmfiaaGreatDoor
open Go.RowKit
variable {md me : Bool}
structure ObIn (o : Ob) : Prop where
 kd : -9223372036854775808 ≤ o.kind ∧ o.kind ≤ 9223372036854775807
 cl : -9223372036854775808 ≤ o.cls ∧ o.cls ≤ 9223372036854775807
 co : -9223372036854775808 ≤ o.code ∧ o.code ≤ 9223372036854775807
 st : -9223372036854775808 ≤ o.state ∧ o.state ≤ 9223372036854775807
 nm : o.name.size ≤ 2000000
 rl : o.refs.length ≤ 2000000
 ol : o.order.length ≤ 2000000
 nl : o.names.length ≤ 2000000
 il : o.items.length ≤ 2000000
 kl : o.keys.length ≤ 2000000
 ns : ∀ s ∈ o.names,s.size ≤ 2000000
 iv : ∀ v ∈ o.items,VlIn v
 kv : ∀ v ∈ o.keys,VlIn v
theorem pQ0 : ObIn ob0 := ⟨by decide,by decide,by decide,by decide,by decide,by decide,by decide,by decide,by decide,by decide,(fun _ h => by cases h),(fun _ h => by cases h),(fun _ h => by cases h)⟩
structure HpIn (h : List Ob) : Prop where
 ob : ∀ o ∈ h,ObIn o
 len : h.length ≤ 2000000
theorem HpIn.at {h : List Ob} (hh : HpIn h) (n : Int) : ObIn (zW h n) := by
 show ObIn (h.getD n.toNat ob0);rw [List.getD_eq_getElem?_getD]
 cases hq : h[n.toNat]? with
 | none => exact pQ0
 | some o => exact hh.ob o (List.mem_of_getElem? hq)
theorem VlIn.zero {v : Vl} (h : VlIn v) : VlIn { v with k := 0 } := ⟨(by decide : (-9223372036854775808 : Int) ≤ 0),(by decide : (0 : Int) ≤ 9223372036854775807),h.r1,h.r2,h.nl,h.dl,h.nn,h.dn,h.s⟩
theorem pB0 : VlIn vl0 := ⟨by decide,by decide,by decide,by decide,(fun _ h => by cases h),(fun _ h => by cases h),by decide,by decide,by decide⟩
theorem mL {l : List Vl} (h : ∀ v ∈ l,VlIn v) (n : Nat) : VlIn (l.getD n vl0) := by
 rw [List.getD_eq_getElem?_getD]
 cases hq : l[n]? with
 | none => exact pB0
 | some v => exact h v (List.mem_of_getElem? hq)
def lettersB : ByteArray := ⟨#[110,99,114,97,107,100,115]⟩
def bD (b : Bool) : List D := [.v (.bool b)]
def jA0 (o : Ob) : List Bool := [decide (o.name = ⟨#[]⟩),decide (o.cls = 0),decide ((o.refs.length : Int) = 0),decide ((o.names.length : Int) = 0),decide ((o.keys.length : Int) = 0),decide (o.code = 0),decide (o.state = 0)]
def ltP (o : Ob) (i : Nat) : Bool := !(!((jA0 o).getD ((i : Int)).toNat false) && !(Lib.contains (uB o.kind).data.toList (lettersB.extract ((i : Int)).toNat ((i : Int) + 1).toNat).data.toList))
abbrev dZ (u : ByteArray) : Int := (bAt u ((u.size : Int) - 1).toNat : Nat)
def cntS (o : Ob) : Int := if uB o.kind = ⟨#[]⟩ then 0 else if dZ (uB o.kind) = 42 then o.items.length else if dZ (uB o.kind) = 61 then o.names.length else if dZ (uB o.kind) = 58 then o.keys.length else IntKind.i64.wrap (IntKind.u8.wrap (dZ (uB o.kind) - 48))
def wA (o : Ob) : Bool := ((((!decide ((o.items.length : Int) = cntS o) || decide (o.code < 0)) || decide (o.state < 0)) || decide (xP o.kind < o.state)) || (!decide (o.kind = 9) && decide (0 < (o.order.length : Int))))
def jV (o : Ob) : Int := if (List.range 7).all (ltP o) = true then (if wA o = true then 6 else 0) else 6
theorem yH0 (k : Int) : (uB k).size ≤ 100 := by
 have h : ∀ u ∈ usesL,u.size ≤ 100 := by decide +kernel
 show (usesL.getD k.toNat ByteArray.empty).size ≤ 100;rw [List.getD_eq_getElem?_getD]
 cases hq : usesL[k.toNat]? with
 | none => decide
 | some u => exact h u (List.mem_of_getElem? hq)
theorem vH0 {u : ByteArray} (h : ¬ u = ⟨#[]⟩) : 0 < u.size := by
 rcases Nat.eq_zero_or_pos u.size with h0 | h0
 ·exact absurd (dM h0) h
 ·exact h0
def xM (o : Ob) : Bool := if o.kind = 11 then dotS o.name else vA o.name
def mx3 (a b c : Int) : Int := if (if a < b then b else a) < c then c else (if a < b then b else a)
def vT (o : Ob) : Int := if (Lib.contains (uB o.kind).data.toList [110] && !xM o) = true then 7 else if (decide (1000 < mx3 o.items.length o.keys.length o.refs.length) || decide (200 < (o.names.length : Int))) = true then 2 else 0
structure Sc {α β : Type} (l : List α) (F : List α → List α → β) where
 k : Nat
 le : k ≤ l.length
 eq : F (l.take k) (l.drop k) = F [] l
theorem zV0 {α : Type} {l : List α} {k : Nat} (h : k < l.length) (e : α) : l.drop k = l.getD (k : Int).toNat e :: l.drop (k + 1) := by rw [gS h,List.drop_eq_getElem_cons h]
theorem qU {α : Type} {l : List α} {k : Nat} (h : k < l.length) (e : α) : l.take (k + 1) = l.take k ++ [l.getD (k : Int).toNat e] := by rw [gS h,List.take_succ_eq_append_getElem h]
def Sc.start {α β : Type} (l : List α) (F : List α → List α → β) : Sc l F := ⟨0,Nat.zero_le _,rfl⟩
def Sc.next {α β : Type} {l : List α} {F : List α → List α → β} {e : α} (x : Sc l F) (h1 : x.k < l.length) (h2 : F (l.take x.k) (l.getD (x.k : Int).toNat e :: l.drop (x.k + 1)) = F (l.take x.k ++ [l.getD (x.k : Int).toNat e]) (l.drop (x.k + 1))) : Sc l F := ⟨x.k + 1,by omega,by
 rw [qU h1 e,← h2,← zV0 h1 e];exact x.eq⟩
theorem Sc.here {α β : Type} {l : List α} {F : List α → List α → β} {e : α} (x : Sc l F) (h1 : x.k < l.length) {n : β} (h2 : F (l.take x.k) (l.getD (x.k : Int).toNat e :: l.drop (x.k + 1)) = n) : n = F [] l := by
 rw [← h2,← zV0 h1 e];exact x.eq
theorem Sc.done {α β : Type} {l : List α} {F : List α → List α → β} (x : Sc l F) (h1 : ¬ x.k < l.length) {n : β} (h2 : F l [] = n) : n = F [] l := by
 have := x.eq;rw [List.take_of_length_le (by omega),List.drop_of_length_le (by omega),h2] at this;exact this
def nmF : List ByteArray → List ByteArray → Int
 | _,[] => 0
 | seen,s :: r => if vA s = false then 7 else if hasB seen s = true then 8 else nmF (seen ++ [s]) r
def gU0 (o : Ob) : Int := nmF [] o.names
def fixV (o : Ob) (v : Vl) : Vl := if v.k = 9 ∧ (o.kind = 6 ∨ o.kind = 17) then { v with k := 0 } else v
def jQ : List Vl → List Int
 | [] => []
 | v :: l => if v.k = 6 then v.r :: jQ l else jQ l
theorem jM : ∀ l m : List Vl,jQ (l ++ m) = jQ l ++ jQ m
 | [],_ => rfl
 | v :: l,m => by
  rw [List.cons_append,jQ,jQ,jM l m];split <;> rfl
theorem gG : ∀ l : List Vl,(jQ l).length ≤ l.length
 | [] => Nat.le_refl _
 | v :: l => by
  rw [jQ];split
  ·simp;exact gG l
  ·simp;have := gG l;omega
def xL (o : Ob) : List Int := [o.cls] ++ o.refs ++ o.order
def vK (o : Ob) : List Int := (xL o ++ jQ (o.keys ++ o.items)) ++ (if o.kind = 18 ∧ o.state ≠ 0 then [IntKind.i64.wrap (o.state - 1)] else [])
def uY (h : List Ob) (o : Ob) : Int := if ((o.keys ++ o.items).all fun v => jK (fixV o v)) = true then (if (vK o).all (yD h) = true then 0 else 4) else 6
theorem tG0 {P : Program} {K : DS → Prop} {p : Prop} {r : Out} (hr : r.sat P K) (hp : p := by first | exact trivial | omega | exact ini (by omega) (by omega) | (intro hh;simp at hh;exact ini (by omega) (by omega)) | (intro hh;simp at hh ⊢;omega) | (simp at *;omega) | (simp_all;done) | (intro hh;exact ⟨by omega,by omega,by show (x.k : Int) + 1 ≤ ((lettersB.size : Nat) : Int);have : lettersB.size = 7 := rfl;omega⟩)) : (Out.need p r).sat P K := ⟨hp,hr⟩
theorem shape_ok (h : List Ob) (n : Int) (hn : inH h n) (hk : 0 ≤ (h.getD n.toNat ob0).kind ∧ (h.getD n.toNat ob0).kind < 21) : Fn Tryz.prog 49 [hpD md h,.v (.int .i64 n)] (.v (.int .i64 (jV (h.getD n.toNat ob0)))) := by
 have hus := yH0 (h.getD n.toNat ob0).kind;refine yQ zP Tryz.func49 rfl rfl rfl rfl rfl rfl ?_;intro w0 s0 mx;refine zN 100 ?_;refine zB (zE zP [] 200 rfl ?_);repeat (first | refine zG ?_ | refine zH ?_ | refine zV (by exact hn) ?_)
 refine zC (zA ?_);refine zB (zE zP [] 300 rfl ?_);refine zF ?_;refine zQ _ (xQ0 _ hk) rfl ?_;refine zF ?_;refine zC (zA (zN 400 ?_));refine zN 500 ?_;refine zB (zN 600 ?_);refine zU ?_;refine yH (ι := Up 7 (ltP (h.getD n.toNat ob0))) [5,6,7] [105] 650 (fun x => [(47,.v (.int .i64 x.k)),(46,.v (.int .i64 7)),(8,.sl false 1 (jA0 (h.getD n.toNat ob0)) bD false),(45,.sl false 1 (jA0 (h.getD n.toNat ob0)) bD false)]) (fun _ => []) (fun x => 7 - x.k) ⟨0,Nat.zero_le _,fun j hj => by omega⟩ ?_;refine ⟨⟨yR,yM,rfl,rfl⟩,fun x => ?_⟩;have hk7 := x.le;have hem : (jA0 (h.getD n.toNat ob0)).length = 7 := rfl;refine zN 700 ?_;refine zB (zS rfl (fun c6 => ?_) (fun c6 => ?_))
 ·replace c6 : x.k < 7 := by have := of_decide_eq_true c6;omega
  refine zO (zA (zB (zU (zN 800 ?_))));refine zB (zE zP [] 900 rfl ?_);repeat (first | refine zG ?_ | refine zH ?_ | refine tG0 ?_)
  refine yU _ (fun hg12 => tB _ _ (by omega)) rfl ?_;repeat (first | refine zG ?_ | refine zH ?_ | refine tG0 ?_)
  refine zC (zA (zS rfl (fun c8 => ?_) (fun c8 => ?_)))
  ·
   refine zN 1000 ?_;refine zL (zM (zK (yT (zM (zK ?_)))));exact FinV.ret rfl (SubP.int (by rw [jV,Up.no (p := ltP (h.getD n.toNat ob0)) c6 (congrArg Bool.not c8)];rfl))
  ·
   refine zO (zR (zA (qC zP [] 1100 ?_)));exact zX (x.next (by omega) (congrArg Bool.not c8)) ⟨yR,yM,rfl,rfl⟩ (by show 7 - (x.k + 1) < 7 - x.k;omega)
 ·replace c6 : ¬ x.k < 7 := by have := of_decide_eq_false c6;omega
  refine yO (yF (yG (yC (zA (zN 1200 ?_)))));refine zB (zN 1300 ?_);refine zZ (fun c12 => ?_) (fun c12 => ?_)
  ·
   refine zB (zE zP [] 1400 rfl ?_);repeat (first | refine zG ?_ | refine zH ?_ | refine zV (by first | exact ini (by have := vH0 c12;omega) (by omega) | (have := vH0 c12;omega)) ?_)
   refine zC (zA (zN 1500 ?_));refine zU (zN 1700 ?_);refine zZ (fun c16 => ?_) (fun c16 => ?_)
   ·
    refine qC zP [] 1800 ?_;refine zR (zA (zB ?_));refine zB (zT zP [] mK4 2300 yP (by kernel_rfl) rfl ?_);refine zF ?_;refine yU _ (fun hg20 => vW _) rfl ?_;refine zF ?_;refine zC (zA (zS rfl (fun c22 => ?_) (fun c22 => ?_)))
    ·
     refine zN 2400 ?_;refine zL (zK ?_);exact FinV.ret rfl (SubP.int (by rw [jV,if_pos (x.yes c6),(show wA (h.getD n.toNat ob0) = true from (by rw [wA,cntS,if_neg c12,if_pos c16];exact c22))];rfl))
    ·
     refine zO (zA (zN 2500 ?_));refine zL ?_;exact FinV.ret rfl (SubP.int (by rw [jV,if_pos (x.yes c6),(show wA (h.getD n.toNat ob0) = false from (by rw [wA,cntS,if_neg c12,if_pos c16];exact c22))];rfl))
   ·
    refine zN 1900 ?_;refine zZ (fun c18 => ?_) (fun c18 => ?_)
    ·
     refine qC zP [] 2000 ?_;refine zR (zA (zB ?_));refine zB (zT zP [] mK4 2300 yP (by kernel_rfl) rfl ?_);refine zF ?_;refine yU _ (fun hg20 => vW _) rfl ?_;refine zF ?_;refine zC (zA (zS rfl (fun c22 => ?_) (fun c22 => ?_)))
     ·
      refine zN 2400 ?_;refine zL (zK ?_);exact FinV.ret rfl (SubP.int (by rw [jV,if_pos (x.yes c6),(show wA (h.getD n.toNat ob0) = true from (by rw [wA,cntS,if_neg c12,if_neg c16,if_pos c18];exact c22))];rfl))
     ·
      refine zO (zA (zN 2500 ?_));refine zL ?_;exact FinV.ret rfl (SubP.int (by rw [jV,if_pos (x.yes c6),(show wA (h.getD n.toNat ob0) = false from (by rw [wA,cntS,if_neg c12,if_neg c16,if_pos c18];exact c22))];rfl))
    ·
     refine zN 2100 ?_;refine zZ (fun c20 => ?_) (fun c20 => ?_)
     ·
      refine qC zP [] 2200 ?_;refine zR (zA (zB ?_));refine zB (zT zP [] mK4 2300 yP (by kernel_rfl) rfl ?_);refine zF ?_;refine yU _ (fun hg20 => vW _) rfl ?_;refine zF ?_;refine zC (zA (zS rfl (fun c22 => ?_) (fun c22 => ?_)))
      ·
       refine zN 2400 ?_;refine zL (zK ?_);exact FinV.ret rfl (SubP.int (by rw [jV,if_pos (x.yes c6),(show wA (h.getD n.toNat ob0) = true from (by rw [wA,cntS,if_neg c12,if_neg c16,if_neg c18,if_pos c20];exact c22))];rfl))
      ·
       refine zO (zA (zN 2500 ?_));refine zL ?_;exact FinV.ret rfl (SubP.int (by rw [jV,if_pos (x.yes c6),(show wA (h.getD n.toNat ob0) = false from (by rw [wA,cntS,if_neg c12,if_neg c16,if_neg c18,if_pos c20];exact c22))];rfl))
     ·
      refine qC zP [] 2200 ?_;refine zR (zA (zB ?_));refine zB (zT zP [] mK4 2300 yP (by kernel_rfl) rfl ?_);refine zF ?_;refine yU _ (fun hg20 => vW _) rfl ?_;refine zF ?_;refine zC (zA (zS rfl (fun c22 => ?_) (fun c22 => ?_)))
      ·
       refine zN 2400 ?_;refine zL (zK ?_);exact FinV.ret rfl (SubP.int (by rw [jV,if_pos (x.yes c6),(show wA (h.getD n.toNat ob0) = true from (by rw [wA,cntS,if_neg c12,if_neg c16,if_neg c18,if_neg c20];exact c22))];rfl))
      ·
       refine zO (zA (zN 2500 ?_));refine zL ?_;exact FinV.ret rfl (SubP.int (by rw [jV,if_pos (x.yes c6),(show wA (h.getD n.toNat ob0) = false from (by rw [wA,cntS,if_neg c12,if_neg c16,if_neg c18,if_neg c20];exact c22))];rfl))
  ·
   refine zO (zA (zB ?_));refine zB (zT zP [] mK4 2300 yP (by kernel_rfl) rfl ?_);refine zF ?_;refine yU _ (fun hg20 => vW _) rfl ?_;refine zF ?_;refine zC (zA (zS rfl (fun c22 => ?_) (fun c22 => ?_)))
   ·
    refine zN 2400 ?_;refine zL (zK ?_);exact FinV.ret rfl (SubP.int (by rw [jV,if_pos (x.yes c6),(show wA (h.getD n.toNat ob0) = true from (by rw [wA,cntS,if_pos c12];exact c22))];rfl))
   ·
    refine zO (zA (zN 2500 ?_));refine zL ?_;exact FinV.ret rfl (SubP.int (by rw [jV,if_pos (x.yes c6),(show wA (h.getD n.toNat ob0) = false from (by rw [wA,cntS,if_pos c12];exact c22))];rfl))
theorem sizes_ok (h : List Ob) (n : Int) (hn : inH h n) (hk : 0 ≤ (h.getD n.toNat ob0).kind ∧ (h.getD n.toNat ob0).kind < 21) (hh : HpIn h) : Fn Tryz.prog 50 [hpD md h,.v (.int .i64 n)] (.v (.int .i64 (vT (h.getD n.toNat ob0)))) := by
 have hus := yH0 (h.getD n.toNat ob0).kind;have hnm := (show ObIn (h.getD n.toNat ob0) from hh.at n).nm;refine yQ zP Tryz.func50 rfl rfl rfl rfl rfl rfl ?_;intro w0 s0 mx;refine zN 100 ?_;refine zB (zE zP [] 200 rfl ?_);repeat (first | refine zG ?_ | refine zH ?_ | refine zV (by exact hn) ?_)
 refine zC (zA (zB ?_));refine zB (zE zP [] 300 rfl ?_);refine zF ?_;refine zQ _ (xQ0 _ hk) rfl ?_;refine zF ?_;refine zQ _ (tB _ _ (by omega)) rfl ?_;refine zF ?_;refine zC (zA (zS rfl (fun c2 => ?_) (fun c2 => ?_)))
 ·
  refine zB (zE zP [] 400 rfl ?_);refine zF ?_;refine zQ _ (mH _) rfl ?_;refine zF ?_;refine zC (zA (zB (zN 500 ?_)));refine zZ (fun c4 => ?_) (fun c4 => ?_)
  ·
   refine zE zP [] 600 rfl ?_;refine zF ?_;refine zQ _ (tA _ (by first | assumption | omega | (simp_all;done))) rfl ?_;refine zF ?_;refine zC (zA (zN 700 ?_));refine zS rfl (fun c6 => ?_) (fun c6 => ?_)
   ·simp only [Bool.not_eq_true'] at c6;refine zN 800 ?_;refine zL (zK ?_);exact FinV.ret rfl (SubP.int (by rw [vT,show (Lib.contains (uB (h.getD n.toNat ob0).kind).data.toList [110] && !xM (h.getD n.toNat ob0)) = true from (by rw [c2,xM,if_pos c4,c6];rfl)];rfl))
   ·simp only [Bool.not_eq_false'] at c6;refine zO (zA (zB (zN 900 ?_)));refine zS rfl (fun c8 => ?_) (fun c8 => ?_)
    ·
     refine zN 1000 ?_;refine zL (zK ?_);exact FinV.ret rfl (SubP.int (by rw [vT,show (Lib.contains (uB (h.getD n.toNat ob0).kind).data.toList [110] && !xM (h.getD n.toNat ob0)) = false from (by rw [c2,xM,if_pos c4,c6];rfl)];rw [if_neg (by decide)];show _ = if (_ : Bool) = true then _ else _;unfold mx3;rw [c8];rfl))
    ·
     refine zO (zA (zN 1100 ?_));refine zL ?_;exact FinV.ret rfl (SubP.int (by rw [vT,show (Lib.contains (uB (h.getD n.toNat ob0).kind).data.toList [110] && !xM (h.getD n.toNat ob0)) = false from (by rw [c2,xM,if_pos c4,c6];rfl)];rw [if_neg (by decide)];show _ = if (_ : Bool) = true then _ else _;unfold mx3;rw [c8];rfl))
  ·
   refine zO (zA (zN 700 ?_));refine zS rfl (fun c6 => ?_) (fun c6 => ?_)
   ·simp only [Bool.not_eq_true'] at c6;refine zN 800 ?_;refine zL (zK ?_);exact FinV.ret rfl (SubP.int (by rw [vT,show (Lib.contains (uB (h.getD n.toNat ob0).kind).data.toList [110] && !xM (h.getD n.toNat ob0)) = true from (by rw [c2,xM,if_neg c4,c6];rfl)];rfl))
   ·simp only [Bool.not_eq_false'] at c6;refine zO (zA (zB (zN 900 ?_)));refine zS rfl (fun c8 => ?_) (fun c8 => ?_)
    ·
     refine zN 1000 ?_;refine zL (zK ?_);exact FinV.ret rfl (SubP.int (by rw [vT,show (Lib.contains (uB (h.getD n.toNat ob0).kind).data.toList [110] && !xM (h.getD n.toNat ob0)) = false from (by rw [c2,xM,if_neg c4,c6];rfl)];rw [if_neg (by decide)];show _ = if (_ : Bool) = true then _ else _;unfold mx3;rw [c8];rfl))
    ·
     refine zO (zA (zN 1100 ?_));refine zL ?_;exact FinV.ret rfl (SubP.int (by rw [vT,show (Lib.contains (uB (h.getD n.toNat ob0).kind).data.toList [110] && !xM (h.getD n.toNat ob0)) = false from (by rw [c2,xM,if_neg c4,c6];rfl)];rw [if_neg (by decide)];show _ = if (_ : Bool) = true then _ else _;unfold mx3;rw [c8];rfl))
 ·
  refine zO (zA (zB (zN 900 ?_)));refine zS rfl (fun c8 => ?_) (fun c8 => ?_)
  ·
   refine zN 1000 ?_;refine zL (zK ?_);exact FinV.ret rfl (SubP.int (by rw [vT,show (Lib.contains (uB (h.getD n.toNat ob0).kind).data.toList [110] && !xM (h.getD n.toNat ob0)) = false from (by rw [c2];rfl)];rw [if_neg (by decide)];show _ = if (_ : Bool) = true then _ else _;unfold mx3;rw [c8];rfl))
  ·
   refine zO (zA (zN 1100 ?_));refine zL ?_;exact FinV.ret rfl (SubP.int (by rw [vT,show (Lib.contains (uB (h.getD n.toNat ob0).kind).data.toList [110] && !xM (h.getD n.toNat ob0)) = false from (by rw [c2];rfl)];rw [if_neg (by decide)];show _ = if (_ : Bool) = true then _ else _;unfold mx3;rw [c8];rfl))
theorem names_ok (h : List Ob) (n : Int) (hn : inH h n) (hh : HpIn h) : Fn Tryz.prog 51 [hpD md h,.v (.int .i64 n)] (.v (.int .i64 (gU0 (h.getD n.toNat ob0)))) := by
 have hnl := (show ObIn (h.getD n.toNat ob0) from hh.at n).nl;refine yQ zP Tryz.func51 rfl rfl rfl rfl rfl rfl ?_;intro w0 s0 mx;refine zN 100 ?_;refine zB (zE zP [] 200 rfl ?_);repeat (first | refine zG ?_ | refine zH ?_ | refine zV (by exact hn) ?_)
 refine zC (zA (zB (zN 300 ?_)));refine zU ?_;refine yH (ι := Sc (h.getD n.toNat ob0).names nmF) [5,14,15] [] 350 (fun x => [(16,.v (.int .i64 x.k))]) (fun _ => []) (fun x => (h.getD n.toNat ob0).names.length - x.k) (Sc.start _ _) ?_;refine ⟨⟨yR,yM,rfl,rfl⟩,fun x => ?_⟩;have hk := x.le;refine zN 400 ?_;refine zB (zZ (fun c3 => ?_) (fun c3 => ?_))
 ·
  refine zO (zA (zB (zU (zN 500 ?_))));refine zB ?_;refine zB (zE zP [] 600 rfl ?_);refine zF ?_;refine zQ _ (mH _) rfl ?_;refine zF ?_;refine zC (zA (zZ (fun c5 => ?_) (fun c5 => ?_)))
  ·
   refine zN 700 ?_;refine zL (zK (zM (zK (yT (zM (zK ?_))))));exact FinV.ret rfl (SubP.int (x.here (e := ByteArray.empty) c3 (by rw [nmF,if_pos c5])))
  ·
   refine zO (zA ?_);refine zB (zE zP [] 800 rfl ?_);refine zF ?_;refine zQ _ (HasString_ok _ _) rfl ?_;refine zF ?_;refine zC (zA (zS rfl (fun c7 => ?_) (fun c7 => ?_)))
   ·
    refine zN 900 ?_;refine zL (zM (zK (yT (zM (zK ?_)))));exact FinV.ret rfl (SubP.int (x.here (e := ByteArray.empty) c3 (by rw [nmF,if_neg (by rw [c5];decide),if_pos (show hasB ((h.getD n.toNat ob0).names.take x.k) _ = true from c7)])))
   ·
    refine zO (zR (zA (qC zP [] 1000 ?_)));exact zX (x.next (e := ByteArray.empty) c3 (by rw [nmF,if_neg (by rw [c5];decide),if_neg (by rw [show hasB ((h.getD n.toNat ob0).names.take x.k) _ = false from c7];decide)])) ⟨yR,yM,rfl,rfl⟩ (by show (h.getD n.toNat ob0).names.length - (x.k + 1) < (h.getD n.toNat ob0).names.length - x.k;omega)
 ·
  refine yO (yF (yG (yC (zA (zN 1100 ?_)))));refine zL ?_;exact FinV.ret rfl (SubP.int (x.done c3 rfl))
end Go.Proofs.YtnajlcfdjjmfiaaGreatDoor
