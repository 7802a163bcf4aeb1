/- Part 25 of the proof. -/
import Derived.Test.YtbhndnphimmjjaaGreatDoorM24
namespace Go.Proofs.YtbhndnphimmjjaaGreatDoor
open Go.RowKit
variable {md me : Bool}
theorem zR1 (s : ByteArray) : atB ++ s ++ ⟨#[39,32,99,97,110,110,111,116,32,98,101,32]⟩ ++ ⟨#[119,114,105,116,116,101,110]⟩ = atB ++ s ++ cnwB := by
 rw [ByteArray.append_assoc (a := atB ++ s)];rfl
theorem zS1 (s : ByteArray) : atB ++ s ++ ⟨#[39,32,99,97,110,110,111,116,32,98,101,32]⟩ ++ ⟨#[100,101,108,101,116,101,100]⟩ = atB ++ s ++ cndB := by
 rw [ByteArray.append_assoc (a := atB ++ s)];rfl
def ixN (l : List ByteArray) (s : ByteArray) : Nat := if ixI l s < 0 then l.length else (ixI l s).toNat
theorem bQ0 {l : List ByteArray} {s : ByteArray} {i : Nat} (hi : i < l.length) : (i : Int) = ixI l s ↔ i = ixN l s := by
 unfold ixN;split <;> omega
theorem uP0 {l : List ByteArray} {s : ByteArray} (h : ¬ ixI l s < 0) : ixN l s = (ixI l s).toNat := if_neg h
theorem ixN_neg {l : List ByteArray} {s : ByteArray} (h : ixI l s < 0) : ixN l s = l.length := if_pos h
theorem zT0 {α : Type} {l : List α} {i : Nat} (hi : i < l.length) : (l.take (i + 1)).eraseIdx i = (l.take i).eraseIdx i := by
 rw [List.take_succ_eq_append_getElem hi,List.eraseIdx_append_of_length_le (by rw [List.length_take];omega),List.length_take,Nat.min_eq_left (by omega),Nat.sub_self,List.eraseIdx_of_length_le (l := l.take i) (by rw [List.length_take];omega)];simp
theorem xO0 {α : Type} {l : List α} {i k : Nat} (e : α) (hi : i < l.length) (hk : ¬ i = k) : (l.take (i + 1)).eraseIdx k = (l.take i).eraseIdx k ++ [l.getD (i : Int).toNat e] := by
 rw [List.take_succ_eq_append_getElem hi,Int.toNat_natCast,List.getD_eq_getElem?_getD,List.getElem?_eq_getElem hi];rcases Nat.lt_or_ge k i with h | h
 ·rw [List.eraseIdx_append_of_lt_length (by rw [List.length_take];omega)];rfl
 ·rw [List.eraseIdx_of_length_le (by rw [List.length_append,List.length_take];simp;omega),List.eraseIdx_of_length_le (by rw [List.length_take];omega)];rfl
theorem set_yes {l : List Vl} {i : Nat} {w a : Vl} (hi : i < l.length) : ((l.set i w).take i ++ [a]).set i w = (l.set i w).take (i + 1) := by
 have h2 : i < (l.set i w).length := by rw [List.length_set];exact hi
 rw [List.take_succ_eq_append_getElem h2,List.getElem_set_self,List.set_append_right _ _ (by rw [List.length_take];omega),List.length_take,Nat.min_eq_left (by omega),Nat.sub_self];rfl
theorem bG0 {l : List Vl} {i k : Nat} {w : Vl} (hi : i < l.length) (hk : ¬ i = k) : (l.set k w).take (i + 1) = (l.set k w).take i ++ [l.getD (i : Int).toNat vl0] := by
 have h2 : i < (l.set k w).length := by rw [List.length_set];exact hi
 rw [List.take_succ_eq_append_getElem h2,List.getElem_set_ne (fun e => hk e.symm),Int.toNat_natCast,List.getD_eq_getElem?_getD,List.getElem?_eq_getElem hi];rfl
theorem set_row {l : List Vl} {a w : Vl} {i n : Nat} (hn : n = i) : (l.map vlD ++ [vlD a]).set n (vlD w) = ((l ++ [a]).set i w).map vlD := by
 rw [hn,List.map_set,List.map_append];rfl
theorem xJ0 {h : List Ob} {v : Vl} {s : ByteArray} (h10 : (zR h v).kind = 10) : fixS h v s = ((hasB (yG h (zR h v).cls).order 28 && hasB [argN,uX,ctxN,uV] s) || (hasB (yG h (zR h v).cls).order 48 && decide (s = dX))) := by
 unfold fixS;rw [if_neg (by omega),if_pos h10];by_cases h1 : s = argN ∨ s = uX ∨ s = ctxN ∨ s = uV
 ·rw [if_pos h1];have h2 : hasB [argN,uX,ctxN,uV] s = true := by simpa [hasB] using h1
  have h3 : ¬ s = dX := by rcases h1 with rfl | rfl | rfl | rfl <;> decide
  rw [h2,decide_eq_false h3];simp
 ·rw [if_neg h1];have h2 : hasB [argN,uX,ctxN,uV] s = false := by rw [← Bool.not_eq_true];intro h9;exact h1 (by simpa [hasB] using h9)
  rw [h2];by_cases h3 : s = dX
  ·rw [if_pos h3,decide_eq_true h3];simp
  ·rw [if_neg h3,decide_eq_false h3];simp
theorem mZ0 {h : List Ob} {v : Vl} {s : ByteArray} (h10 : ¬ (zR h v).kind = 10) : fixS h v s = (decide ((zR h v).kind = 9) && (decide (s = zD1) || decide (s = ordB))) := by
 unfold fixS;by_cases h9 : (zR h v).kind = 9
 ·rw [if_pos h9,decide_eq_true h9];rfl
 ·rw [if_neg h9,if_neg h10,decide_eq_false h9];rfl
theorem cV0 (o : Ob) (s : ByteArray) (w : Vl) (h : ¬ ixI o.names s < 0) : (qD o s w).names = o.names ∧ (qD o s w).items = o.items.set (ixN o.names s) w := by
 rw [qD,if_neg h,uP0 h];exact ⟨rfl,rfl⟩
theorem cU0 (o : Ob) (s : ByteArray) (w : Vl) (h : ixI o.names s < 0) (hl : o.names.length = o.items.length) : (qD o s w).names = o.names ++ [s] ∧ (qD o s w).items = o.items.set (ixN o.names s) w ++ [w] := by
 rw [qD,if_pos h,ixN_neg h,List.set_eq_of_length_le (by omega)];exact ⟨rfl,rfl⟩
theorem bump_put (o : Ob) (s : ByteArray) (w : Vl) (h9 : o.kind = 9) : { o with state := o.state + 1,names := (qD o s w).names,items := (qD o s w).items } = jL (qD o s w) := by
 unfold jL qD;split <;> simp [h9]
theorem bump_put' (o : Ob) (s : ByteArray) (w : Vl) (h9 : ¬ o.kind = 9) : { o with names := (qD o s w).names,items := (qD o s w).items } = jL (qD o s w) := by
 unfold jL qD;split <;> simp [h9]
theorem bump_cut (o : Ob) (s : ByteArray) (h9 : o.kind = 9) : { o with state := o.state + 1,names := (cutO o s).names,items := (cutO o s).items } = jL (cutO o s) := by
 unfold jL cutO;simp [h9]
theorem bump_cut' (o : Ob) (s : ByteArray) (h9 : ¬ o.kind = 9) : { o with names := (cutO o s).names,items := (cutO o s).items } = jL (cutO o s) := by
 unfold jL cutO;simp [h9]
theorem gK0 {P : Program} {K : DS → Prop} {p : Prop} {r : Out} (hr : r.sat P K) (hp : p := by first | (simp only [ByteArray.size_append,kbs,List.size_toArray,List.length_cons,List.length_nil];omega) | (simp only [ByteArray.size_append,kbs,List.size_toArray,List.length_cons,List.length_nil];have := hz;omega) | first | exact trivial | omega | exact ini (by omega) (by omega) | (intro hh;simp at hh;exact ini (by omega) (by omega)) | (intro hh;simp at hh ⊢;omega) | (simp at *;omega) | (simp_all;done)) : (Out.need p r).sat P K := ⟨hp,hr⟩
theorem gJ0 {P : Program} {K : DS → Prop} {p : Prop} {r : Out} (hr : r.sat P K) (hp : p := by first | exact ⟨by decide,by rw [hp3];decide⟩ | exact ⟨rfl,by rw [hp3];decide⟩ | first | exact trivial | omega | exact ini (by omega) (by omega) | (intro hh;simp at hh;exact ini (by omega) (by omega)) | (intro hh;simp at hh ⊢;omega) | (simp at *;omega) | (simp_all;done)) : (Out.need p r).sat P K := ⟨hp,hr⟩
theorem dF0 {P : Program} {K : DS → Prop} {p : Prop} {r : Out} (hr : r.sat P K) (hp : p := by first | exact ⟨hcin.1,hcin.2⟩ | exact ⟨rfl,hcin.2⟩ | exact ⟨by simp [MR.len],by simpa [MR.len] using hcin.2⟩ | rfl | (simp only [MR.len];done) | first | exact trivial | omega | exact ini (by omega) (by omega) | (intro hh;simp at hh;exact ini (by omega) (by omega)) | (intro hh;simp at hh ⊢;omega) | (simp at *;omega) | (simp_all;done)) : (Out.need p r).sat P K := ⟨hp,hr⟩
theorem cL0 {P : Program} {K : DS → Prop} {p : Prop} {r : Out} (hr : r.sat P K) (hp : p := by first | rfl | exact ⟨by omega,by omega⟩ | exact ⟨rfl,by omega⟩ | (simp only [MR.len];done) | (simp only [MR.len,List.length_map,List.length_take,List.length_set];omega) | first | exact trivial | omega | exact ini (by omega) (by omega) | (intro hh;simp at hh;exact ini (by omega) (by omega)) | (intro hh;simp at hh ⊢;omega) | (simp at *;omega) | (simp_all;done)) : (Out.need p r).sat P K := ⟨hp,hr⟩
theorem cK0 {P : Program} {K : DS → Prop} {p : Prop} {r : Out} (hr : r.sat P K) (hp : p := by first | (show InI _;exact ⟨by have := hwt.1;show _ ≤ (zR h v).state + 1;omega,by have := hwt.2;show (zR h v).state + 1 ≤ _;omega⟩) | first | exact trivial | omega | exact ini (by omega) (by omega) | (intro hh;simp at hh;exact ini (by omega) (by omega)) | (intro hh;simp at hh ⊢;omega) | (simp at *;omega) | (simp_all;done)) : (Out.need p r).sat P K := ⟨hp,hr⟩
theorem dE0 {P : Program} {K : DS → Prop} {p : Prop} {r : Out} (hr : r.sat P K) (hp : p := by first | exact ⟨hwr.1,hwr.2⟩ | exact ⟨rfl,hwr.2⟩ | exact ⟨by simp [MR.len],by simpa [MR.len] using hwr.2⟩ | rfl | (simp only [MR.len];done) | first | exact trivial | omega | exact ini (by omega) (by omega) | (intro hh;simp at hh;exact ini (by omega) (by omega)) | (intro hh;simp at hh ⊢;omega) | (simp at *;omega) | (simp_all;done)) : (Out.need p r).sat P K := ⟨hp,hr⟩
theorem pR {T : List (Nat × TI)} {rs : List ResultVar} {n0 : Nat} {out d : D} {own' : List DOwn} {S : DS} (hk : Nat.ble n0 2 = true := by rfl) (h : finH T S rs = some d := by rfl) (hs : Sub d (out.ren (qF (iota n0) 2)) := by exact Sub.ofP (SubP.agg (SubPs.refl _)) rfl rfl) (ho : dS (iota n0) 2 S.ow 0 own' := by exact ⟨⟨rfl,Sub.mo rfl,rfl,trivial⟩,SubO.mp rfl,trivial⟩) : FinH T rs n0 out own' .ret S := FinH.ret 2 hk h hs ho
set_option maxHeartbeats 4000000 in
theorem ChangeF_G (h : List Ob) (v : Vl) (s : ByteArray) (w : Vl) (hh : HpIn h) (g : Uh h) (hv : hasS h v = true) (hs : s.size ≤ 100) : FnG Tryz.prog 17 [.bp 0 0,.agg (vlD v),.v (.string s),.agg (vlD w),.v (.bool false)] (hpO h) (.agg (stD (setS h v s w).1)) (hpO (setS h v s w).2) := by
 have hg5 := g.hi;obtain ⟨R,hR⟩ : ∃ R,R = setS h v s w := ⟨_,rfl⟩;rw [← hR];have hvr := xD hv;have hcf := gU0 g hv;have hci := wO g hcf;have hnz := cY g hci;have hhl := hh.len;have hz : qB.size = 1 ∧ nwaB.size = 28 ∧ cnwB.size = 19 ∧ cndB.size = 19 ∧ atB.size = 11 ∧ cqB.size = 7 ∧ mqB.size = 8 ∧ nhB.size = 20 := by decide
 have hoz := tM g v;refine vL zN Tryz.func17 rfl rfl rfl rfl rfl rfl rfl ?_;intro w0 s0 mx;refine zJ 100 ?_;refine zB (zW zN [] mK1 200 yQ (by kernel_rfl) rfl ?_);refine zH ?_;refine qG _ (jJ h v) rfl rfl ?_;refine zH ?_;refine zC (zA ?_);refine yO [0,2,4,6,8,10,11] [0,1,2,3,4,105] 210 [] [(105,.box 36 (obD (zR h v)))] ?_;refine ⟨⟨yI,⟨⟨rfl,SubL.same rfl⟩,yF⟩,rfl,rfl⟩,?_⟩;refine zB (zJ 300 ?_);refine zS rfl (fun c2 => ?_) (fun c2 => ?_)
 ·have c2w : wokS h v = false := by
   have h9 := c2;unfold wokS;by_cases h1 : (zR h v).kind = 10 <;> by_cases h2 : (zR h v).kind = 11 <;> by_cases h3 : (zR h v).kind = 9 <;> by_cases h4 : v.r < 49 <;> simp_all
  refine zB (zW zN [] mK4 400 yQ (by kernel_rfl) rfl ?_);repeat (first | refine zF ?_ | refine zG ?_ | refine gK0 ?_)
  refine qG _ (xN h v g hcf) rfl rfl ?_;repeat (first | refine zF ?_ | refine zG ?_ | refine gK0 ?_)
  refine zV _ (wL _ _) rfl ?_;repeat (first | refine zF ?_ | refine zG ?_ | refine gK0 ?_)
  refine zC (zA (zM (zL ?_)));have hn : R = (raS 36 (qB ++ (yG h (clA h v)).name ++ nwaB),h) := by
   rw [hR];unfold setS chS;rw [if_pos c2w]
  subst hn;exact pR
 ·have c2w : wokS h v = true := by
   have h9 := c2;unfold wokS;by_cases h1 : (zR h v).kind = 10 <;> by_cases h2 : (zR h v).kind = 11 <;> by_cases h3 : (zR h v).kind = 9 <;> by_cases h4 : v.r < 49 <;> simp_all
  have c1w := c2w;have wr := gG0 g c2w;have hwr := wr.inr;have hwe := wr.eo;have hwn := wr.nl;have hwi := wr.il;have hwq := wr.ni;have hwt := wr.st;refine zK (zA ?_);refine zB (zW zN [] [[],[],[0,1],[],[3],[3,4],(rgN 6)] 500 yQ (by kernel_rfl) rfl ?_);refine zH ?_;refine zC (zA (zB (zJ 600 ?_)));refine xL0 rfl ?_;refine zK (zA (zJ 800 ?_));refine vN (ι := {_u : Unit // R = chF h v s cnwB (setF h v s w)}) [0,2,4,6,8,10,11,12] [0,1,2,3,4,105] 2300 (fun _ => [(16,.v (.bool (fixS h v s)))]) (fun _ => []) ?_;refine ⟨?_,fun j => ?_⟩
  ·refine zJ 900 ?_;refine zS rfl (fun c8 => ?_) (fun c8 => ?_)
   ·have c8w : (zR h v).kind = 10 := by simpa using c8
    have hcin := uZ g c8w;have hfr : (chV h v s).k = 6 → qC h (chV h v s).r = true := fun hk9 => gS0 hh g hcin s hk9;have hfind := xM (md := true) h (zR h v).cls s hh hcin (kW hh g hcin);refine zB ?_;refine zB (zW zN [] mK15 1000 yQ (by kernel_rfl) rfl ?_);refine zH ?_;refine qG _ (hfind) rfl rfl ?_;refine zH ?_;refine zC (zA (zJ 1100 ?_));refine zS rfl (fun c10 => ?_) (fun c10 => ?_)
    ·have c10w : (chO h v s).isSome = true := c10;refine zB ?_;refine zB (zW zN [] mK1 1200 yQ (by kernel_rfl) rfl ?_);refine zH ?_;refine qG _ (jJ h (chV h v s)) rfl rfl ?_;refine zH ?_;refine zC (zA ?_);refine yO [0,2,4,6,8,10,11,12,13,14,15,17,19] [0,1,2,3,4,105,910,1105] 1210 [] [(1105,.box 36 (obD (zR h (chV h v s))))] ?_;refine ⟨⟨yI,⟨⟨rfl,SubL.same rfl⟩,yF⟩,rfl,rfl⟩,?_⟩;refine zJ 1300 ?_;refine zS rfl (fun c12 => ?_) (fun c12 => ?_)
     ·have c12w : (zR h (chV h v s)).kind = 12 := by simpa using c12
      have hp3 := kF g c12w;refine zB ?_;refine zB (zE zN [] 1400 rfl ?_);repeat (first | refine zF ?_ | refine zG ?_ | refine gJ0 ?_)
      refine zC (zA (zS rfl (fun c13 => ?_) (fun c13 => ?_)))
      ·have c13w : ((zR h (chV h v s)).items.getD 1 vl0).k = 0 := by simpa using c13
       refine zB (zE zN [] 1500 rfl ?_);refine zH ?_;refine zV _ ((kZ s ⟨#[119,114,105,116,116,101,110]⟩ (by omega) (by decide)).out (SubP.of_eq (by rw [zR1]))) rfl ?_;refine zH ?_;refine zC (zA (zM (zL (zL (zL ?_)))));refine uF ?_;have hn : R = (raS 36 (atB ++ s ++ cnwB),h) := by
        rw [hR];unfold setS chS;rw [if_neg (by rw [c1w];decide),if_pos ⟨c8w,c10w,c12w,c13w⟩]
       subst hn;exact pR
      ·have c13w : ¬ ((zR h (chV h v s)).items.getD 1 vl0).k = 0 := by simpa using c13
       refine zK (zA ?_);refine zB (zE zN [] 1600 rfl ?_);repeat (first | refine zF ?_ | refine zG ?_ | refine gJ0 ?_)
       refine zV _ ((tC _ [v,w]).args ⟨SubP.refl _,SubP.slrSl (m := false) rfl,trivial⟩) rfl ?_;repeat (first | refine zF ?_ | refine zG ?_ | refine gJ0 ?_)
       refine zC (zA (zM (zL (zL ?_))));refine uF ?_;have hn : R = (caS ((zR h (chV h v s)).items.getD 1 vl0) [v,w],h) := by
        rw [hR];unfold setS chS;rw [if_neg (by rw [c1w];decide),if_neg (fun hh9 => c13w hh9.2.2.2),if_pos ⟨c8w,c10w,c12w⟩]
       subst hn;exact pR
     ·have c12w : ¬ (zR h (chV h v s)).kind = 12 := by simpa using c12
      refine zK (zA ?_);refine zB (zW zN [] mK16 1700 yQ (by kernel_rfl) rfl ?_);refine zH ?_;refine qG _ ((pN h (chV h v s) onWr [v,w] hh g hfr (by show 2 ≤ 1000000;decide)).args ⟨SubP.refl _,SubP.refl _,SubP.refl _,SubP.slrSl (m := false) rfl,trivial⟩) rfl rfl ?_;refine zH ?_;refine zC (zA (zJ 1800 ?_));refine zS rfl (fun c17 => ?_) (fun c17 => ?_)
      ·have c17w : (spS h (chV h v s) onWr).2.2 = true := c17;refine zJ 1900 ?_;refine zM (zL ?_);refine uF ?_;have hn : R = (caS (spS h (chV h v s) onWr).1 ((spS h (chV h v s) onWr).2.1 ++ [v,w]),h) := by
        rw [hR];unfold setS chS;rw [if_neg (by rw [c1w];decide),if_neg (fun hh9 => c12w hh9.2.2.1),if_neg (fun hh9 => c12w hh9.2.2),if_pos ⟨c8w,c10w,c17w⟩]
       subst hn;exact pR
      ·have c17w : (spS h (chV h v s) onWr).2.2 = false := c17;refine zK (zA ?_);refine zB (zW zN [] mK3 2000 yQ (by kernel_rfl) rfl ?_);repeat (first | refine zF ?_ | refine zG ?_ | refine dF0 ?_)
       refine zC (zA ?_);refine zE zN [] 2100 rfl ?_;refine zH ?_;refine zV _ (yW (yG h (zR h v).cls).order 28) rfl ?_;refine zH ?_;refine yM _ (fun hg5 => (uS [argN,uX,ctxN,uV] s).args ⟨SubP.slrSl rfl,SubP.refl _,trivial⟩) rfl ?_;refine zH ?_;refine yM _ (fun hg9 => yW (yG h (zR h v).cls).order 48) rfl ?_;refine zH ?_;refine zC ?_;have hj : R = chF h v s cnwB (setF h v s w) := by
        rw [hR];unfold setS chS;rw [if_neg (by rw [c1w];decide),if_neg (fun hh9 => c12w hh9.2.2.1),if_neg (fun hh9 => c12w hh9.2.2),if_neg (fun hh9 => by rw [c17w] at hh9;cases hh9.2.2)]
       exact yY ⟨(),hj⟩ ⟨⟨Sub.of_eq (congrArg (fun b => D.v (.bool b)) ((xJ0 c8w).symm)),yI⟩,yF,rfl,rfl⟩
    ·have c10w : (chO h v s).isSome = false := c10;refine zK (zA ?_);refine zB (zW zN [] mK3 2000 yQ (by kernel_rfl) rfl ?_);repeat (first | refine zF ?_ | refine zG ?_ | refine dF0 ?_)
     refine zC (zA ?_);refine zE zN [] 2100 rfl ?_;refine zH ?_;refine zV _ (yW (yG h (zR h v).cls).order 28) rfl ?_;refine zH ?_;refine yM _ (fun hg5 => (uS [argN,uX,ctxN,uV] s).args ⟨SubP.slrSl rfl,SubP.refl _,trivial⟩) rfl ?_;refine zH ?_;refine yM _ (fun hg9 => yW (yG h (zR h v).cls).order 48) rfl ?_;refine zH ?_;refine zC ?_;have hj : R = chF h v s cnwB (setF h v s w) := by
      rw [hR];unfold setS chS;rw [if_neg (by rw [c1w];decide),if_neg (fun hh9 => by rw [c10w] at hh9;cases hh9.2.1),if_neg (fun hh9 => by rw [c10w] at hh9;cases hh9.2.1),if_neg (fun hh9 => by rw [c10w] at hh9;cases hh9.2.1)]
     exact yY ⟨(),hj⟩ ⟨⟨Sub.of_eq (congrArg (fun b => D.v (.bool b)) ((xJ0 c8w).symm)),yI⟩,yF,rfl,rfl⟩
   ·have c8w : ¬ (zR h v).kind = 10 := by simpa using c8
    refine zK ?_;have hj : R = chF h v s cnwB (setF h v s w) := by
     rw [hR];unfold setS chS;rw [if_neg (by rw [c1w];decide),if_neg (fun hh9 => c8w hh9.1),if_neg (fun hh9 => c8w hh9.1),if_neg (fun hh9 => c8w hh9.1)]
    exact yY ⟨(),hj⟩ ⟨⟨Sub.of_eq (congrArg (fun b => D.v (.bool b)) ((mZ0 c8w).symm)),yI⟩,yF,rfl,rfl⟩
  have hj := j.2;refine zB (zJ 2400 ?_);refine zS rfl (fun c21 => ?_) (fun c21 => ?_)
  ·have c21w : fixS h v s = true := by simpa using c21
   refine zB (zE zN [] 2500 rfl ?_);refine zH ?_;refine zV _ ((kZ s ⟨#[119,114,105,116,116,101,110]⟩ (by omega) (by decide)).out (SubP.of_eq (by rw [zR1]))) rfl ?_;refine zH ?_;refine zC (zA (zM (zL ?_)));have hn : R = (raS 36 (atB ++ s ++ cnwB),h) := by
    rw [hj,chF,if_pos c21w]
   subst hn;exact pR
  ·have c21w : fixS h v s = false := by simpa using c21
   refine zK (zA ?_);refine zB (zE zN [] 2500 rfl ?_);refine zH ?_;refine zV _ (vH (zR h v).names s) rfl ?_;refine zH ?_;refine zC (zA (zJ 2600 ?_));refine zJ 2700 ?_;refine yV 24 9 1 rfl ?_;refine yV 25 29 7 rfl ?_;refine gQ 2701 rfl ?_;refine zB (zJ 2800 ?_);refine zQ ?_;refine yB (ι := {k : Nat // k ≤ (zR h v).names.length}) [0,2,4,6,8,10,11,23,160] [0,1,2,3,4,105] 2800 (fun x => [(161,.v (.int .i64 x.1)),(24,.own 2700 1 (((zR h v).names.take x.1).map sD)),(25,.mo 2701 (((zR h v).items.set (ixN (zR h v).names s) w).take x.1).length)]) (fun x => [(2700,.row 9 1 ((zR h v).names.take x.1).length),(2701,.mrow 29 7 (.map (((zR h v).items.set (ixN (zR h v).names s) w).take x.1) vlD vl0))]) (fun x => (zR h v).names.length - x.1) ⟨0,Nat.zero_le _⟩ ?_;refine ⟨⟨⟨Sub.int rfl,Sub.own rfl,Sub.mo rfl,yI⟩,⟨⟨rfl,rfl,rfl⟩,SubO.mr rfl,yF⟩,rfl,rfl⟩,fun x => ?_⟩;have hk1 : x.1 ≤ (zR h v).names.length := x.2;refine zJ 2900 ?_;refine zB (zS rfl (fun c27 => ?_) (fun c27 => ?_))
   ·have hlt : x.1 < (zR h v).names.length := by simpa using c27
    have hkat := bQ0 (s := s) hlt;have hlti : x.1 < (zR h v).items.length := by omega
    refine zK (zA (zB (zQ (zJ 3000 ?_))));refine zB (zJ 3100 ?_);refine yD (fun c29 => ?_) (fun c29 => ?_)
    ·
     simp at c29
    ·
     refine zK (zA ?_);refine zB (zW zN [] mK17 3200 yQ (by kernel_rfl) rfl ?_);repeat (first | refine zF ?_ | refine zG ?_ | refine cL0 ?_)
     refine zC (zA (zJ 3300 ?_));refine zS rfl (fun c31 => ?_) (fun c31 => ?_)
     ·have c31w : x.1 = ixN (zR h v).names s := hkat.1 (by simpa using c31);have hl32 : (((zR h v).items.set (ixN (zR h v).names s) w).take x.1).length ≤ 1000 := by rw [List.length_take,List.length_set];omega
      refine zE zN [] 3400 rfl ?_;repeat (first | refine zF ?_ | refine zG ?_ | refine zT (by first | rfl | exact trivial | exact ini (by simp only [List.length_cons,List.length_nil];omega) (by simp only [List.length_cons,List.length_nil];omega) | (refine ⟨?_,?_⟩ <;> simp only [MR.len,List.length_cons,List.length_nil] <;> omega) | (simp only [MR.len];done) | first | exact trivial | omega | exact ini (by omega) (by omega) | (intro hh;simp at hh;exact ini (by omega) (by omega)) | (intro hh;simp at hh ⊢;omega) | (simp at *;omega) | (simp_all;done)) ?_)
      refine zC (zO (zA (yS zN [] 3500 ?_)));have hy := set_yes (l := (zR h v).items) (w := w) (a := (zR h v).items.getD (x.1 : Int).toNat vl0) hlti;exact zU ⟨x.1 + 1,by omega⟩ ⟨⟨Sub.int (by push_cast;rfl),Sub.own (by rw [qT hlt ByteArray.empty,List.map_append];rfl),Sub.mo (by rw [← c31w,← hy,List.length_set,List.length_append];rfl),yI⟩,⟨⟨rfl,rfl,by rw [qT hlt ByteArray.empty];simp⟩,SubO.mr (by rw [← c31w,← hy];exact set_row (by simp only [List.length_cons,List.length_nil,List.length_take,List.length_set];omega)),yF⟩,rfl,rfl⟩ (by show (zR h v).names.length - (x.1 + 1) < (zR h v).names.length - x.1;omega)
     ·have c31w : ¬ x.1 = ixN (zR h v).names s := fun h9 => by
       have h8 := c31;simp [hkat.2 h9] at h8
      refine zK (zO (zA (yS zN [] 3400 ?_)));exact zU ⟨x.1 + 1,by omega⟩ ⟨⟨Sub.int (by push_cast;rfl),Sub.own (by rw [qT hlt ByteArray.empty,List.map_append];rfl),Sub.mo (by rw [bG0 hlti c31w,List.length_append];rfl),yI⟩,⟨⟨rfl,rfl,by rw [qT hlt ByteArray.empty];simp⟩,SubO.mr (by rw [bG0 hlti c31w];exact (List.map_append (f := vlD) (l₂ := [(zR h v).items.getD (x.1 : Int).toNat vl0])).symm),yF⟩,rfl,rfl⟩ (by show (zR h v).names.length - (x.1 + 1) < (zR h v).names.length - x.1;omega)
   ·have hke : x.1 = (zR h v).names.length := by
     have h9 : ¬ x.1 < (zR h v).names.length := by simpa using c27
     omega
    refine yE (zZ (yA (zX (zA ?_))));refine vN (ι := {_u : Unit // R = (vlS vl0,h.set v.r.toNat (jL (qD (zR h v) s w)))}) [0,6,10,11] [0,1,2,4,105] 4200 (fun _ => [(24,.own 2700 1 ((qD (zR h v) s w).names.map sD)),(25,.mo 2701 (qD (zR h v) s w).items.length)]) (fun _ => [(2700,.row 9 1 (qD (zR h v) s w).names.length),(2701,.mrow 29 7 (.map (qD (zR h v) s w).items vlD vl0))]) ?_;refine ⟨?_,fun j2 => ?_⟩
    ·refine zQ ?_;refine zJ 3500 ?_;refine yD (fun c34 => ?_) (fun c34 => ?_)
     ·
      simp at c34
     ·
      refine zJ 3700 ?_;refine zS rfl (fun c36 => ?_) (fun c36 => ?_)
      ·have c36w : (ixI (zR h v).names s) < 0 ∧ 200 ≤ (zR h v).names.length := by
        have h9 : (ixI (zR h v).names s) < 0 ∧ (200 : Int) ≤ (((zR h v).names.length : Nat) : Int) := by simpa using c36
        exact ⟨h9.1,by omega⟩
       refine zB (zE zN [] 3800 rfl ?_);refine zH ?_;refine zV _ (wL _ _) rfl ?_;refine zH ?_;refine zC (zA (zM (zP ?_)));refine uF ?_;have hn : R = (raS 42 tooB,h) := by rw [hj,chF,if_neg (by rw [c21w];decide),setF,if_pos c36w]
       subst hn;exact pR
      ·have c36w : ¬ ((ixI (zR h v).names s) < 0 ∧ 200 ≤ (zR h v).names.length) := by
        intro h9;have h8 : (200 : Int) ≤ (((zR h v).names.length : Nat) : Int) := by omega
        have h7 := c36;simp only [decide_eq_true h9.1,decide_eq_true h8] at h7
        cases h7
       refine zJ 3900 ?_;refine zS rfl (fun c38 => ?_) (fun c38 => ?_)
       ·have c38w : (ixI (zR h v).names s) < 0 := by simpa using c38
        refine zW zN [] mK13 4000 yQ (by kernel_rfl) rfl ?_;repeat (first | refine zF ?_ | refine zG ?_ | refine zT (by first | rfl | (simp only [MR.len];done) | (simp only [MR.len,List.length_map,List.length_take,List.length_set];omega) | first | exact trivial | omega | exact ini (by omega) (by omega) | (intro hh;simp at hh;exact ini (by omega) (by omega)) | (intro hh;simp at hh ⊢;omega) | (simp at *;omega) | (simp_all;done)) ?_)
        refine zC (zO ?_);have hj2 : R = (vlS vl0,h.set v.r.toNat (jL (qD (zR h v) s w))) := by rw [hj,chF,if_neg (by rw [c21w];decide),setF,if_neg c36w]
        have hqn : (qD (zR h v) s w).names = (((zR h v).names.take x.1) ++ [s]) := by rw [(cU0 _ _ w c38w hwq).1,hke,List.take_length]
        have hqi : (qD (zR h v) s w).items = ((((zR h v).items.set (ixN (zR h v).names s) w).take x.1) ++ [w]) := by rw [(cU0 _ _ w c38w hwq).2,List.take_of_length_le (by rw [List.length_set];omega)]
        exact yY ⟨(),hj2⟩ ⟨⟨Sub.own (by rw [hqn,List.map_append];rfl),Sub.mo (by rw [hqi,List.length_append];rfl),yI⟩,⟨⟨rfl,rfl,by rw [hqn];simp⟩,SubO.mr (by rw [hqi];exact (List.map_append (f := vlD) (l₂ := [w])).symm),yF⟩,rfl,rfl⟩
       ·have c38w : ¬ (ixI (zR h v).names s) < 0 := by simpa using c38
        refine zK (zO ?_);have hj2 : R = (vlS vl0,h.set v.r.toNat (jL (qD (zR h v) s w))) := by rw [hj,chF,if_neg (by rw [c21w];decide),setF,if_neg c36w]
        have hqn : (qD (zR h v) s w).names = ((zR h v).names.take x.1) := by rw [(cV0 _ _ w c38w).1,hke,List.take_length]
        have hqi : (qD (zR h v) s w).items = (((zR h v).items.set (ixN (zR h v).names s) w).take x.1) := by rw [(cV0 _ _ w c38w).2,List.take_of_length_le (by rw [List.length_set];omega)]
        exact yY ⟨(),hj2⟩ ⟨⟨Sub.own (by rw [hqn]),Sub.mo (by rw [hqi]),yI⟩,⟨⟨rfl,rfl,by rw [hqn]⟩,SubO.mr (by rw [hqi]),yF⟩,rfl,rfl⟩
    have hj2 := j2.2;refine jI 2701 rfl (by repeat (first | exact trivial | exact rfl | exact (fun _ => rfl) | exact (fun h => absurd h (by decide)) | refine ⟨?_,?_⟩)) (by repeat (first | exact trivial | exact rfl | exact (fun _ => rfl) | exact (fun h => absurd h (by decide)) | refine ⟨?_,?_⟩)) ?_;refine zJ 4300 ?_;refine zB (zJ 4400 ?_);refine zS rfl (fun c41 => ?_) (fun c41 => ?_)
    ·have c41w : (zR h v).kind = 9 := by simpa using c41
     refine zE zN [] 4500 rfl ?_;repeat (first | refine zF ?_ | refine zG ?_ | refine cK0 ?_)
     refine zC (zA ?_);refine zB (zW zN [] mK5 4600 yQ (by kernel_rfl) rfl ?_);repeat (first | refine zF ?_ | refine zG ?_ | refine dE0 ?_)
     refine zC (zA (zJ 4700 ?_));refine zM ?_;subst hj2;exact FinH.ret 2 rfl rfl (Sub.ofP (SubP.agg (by repeat (first | exact trivial | exact SubP.refl _ | exact SubP.nilSl rfl | refine ⟨?_,?_⟩))) rfl rfl) ⟨⟨rfl,Sub.mo (by simp),rfl,trivial⟩,SubO.mp (wV (by rw [← bump_put _ s w c41w];exact yV0 { zR h v with state := (zR h v).state + 1 } _ _ _ _)),trivial⟩
    ·have c41w : ¬ (zR h v).kind = 9 := by simpa using c41
     refine zK (zA ?_);refine zB (zW zN [] mK5 4500 yQ (by kernel_rfl) rfl ?_);repeat (first | refine zF ?_ | refine zG ?_ | refine dE0 ?_)
     refine zC (zA (zJ 4600 ?_));refine zM ?_;subst hj2;exact FinH.ret 2 rfl rfl (Sub.ofP (SubP.agg (by repeat (first | exact trivial | exact SubP.refl _ | exact SubP.nilSl rfl | refine ⟨?_,?_⟩))) rfl rfl) ⟨⟨rfl,Sub.mo (by simp),rfl,trivial⟩,SubO.mp (wV (by rw [← bump_put' _ s w c41w];exact yV0 (zR h v) _ _ _ _)),trivial⟩
set_option maxHeartbeats 4000000 in
theorem ChangeT_G (h : List Ob) (v : Vl) (s : ByteArray) (w : Vl) (hh : HpIn h) (g : Uh h) (hv : hasS h v = true) (hs : s.size ≤ 100) : FnG Tryz.prog 17 [.bp 0 0,.agg (vlD v),.v (.string s),.agg (vlD w),.v (.bool true)] (hpO h) (.agg (stD (delS h v s).1)) (hpO (delS h v s).2) := by
 have hg5 := g.hi;obtain ⟨R,hR⟩ : ∃ R,R = delS h v s := ⟨_,rfl⟩;rw [← hR];have hvr := xD hv;have hcf := gU0 g hv;have hci := wO g hcf;have hnz := cY g hci;have hhl := hh.len;have hz : qB.size = 1 ∧ nwaB.size = 28 ∧ cnwB.size = 19 ∧ cndB.size = 19 ∧ atB.size = 11 ∧ cqB.size = 7 ∧ mqB.size = 8 ∧ nhB.size = 20 := by decide
 have hoz := tM g v;refine vL zN Tryz.func17 rfl rfl rfl rfl rfl rfl rfl ?_;intro w0 s0 mx;refine zJ 100 ?_;refine zB (zW zN [] mK1 200 yQ (by kernel_rfl) rfl ?_);refine zH ?_;refine qG _ (jJ h v) rfl rfl ?_;refine zH ?_;refine zC (zA ?_);refine yO [0,2,4,6,8,10,11] [0,1,2,3,4,105] 210 [] [(105,.box 36 (obD (zR h v)))] ?_;refine ⟨⟨yI,⟨⟨rfl,SubL.same rfl⟩,yF⟩,rfl,rfl⟩,?_⟩;refine zB (zJ 300 ?_);refine zS rfl (fun c2 => ?_) (fun c2 => ?_)
 ·have c2w : wokS h v = false := by
   have h9 := c2;unfold wokS;by_cases h1 : (zR h v).kind = 10 <;> by_cases h2 : (zR h v).kind = 11 <;> by_cases h3 : (zR h v).kind = 9 <;> by_cases h4 : v.r < 49 <;> simp_all
  refine zB (zW zN [] mK4 400 yQ (by kernel_rfl) rfl ?_);repeat (first | refine zF ?_ | refine zG ?_ | refine gK0 ?_)
  refine qG _ (xN h v g hcf) rfl rfl ?_;repeat (first | refine zF ?_ | refine zG ?_ | refine gK0 ?_)
  refine zV _ (wL _ _) rfl ?_;repeat (first | refine zF ?_ | refine zG ?_ | refine gK0 ?_)
  refine zC (zA (zM (zL ?_)));have hn : R = (raS 36 (qB ++ (yG h (clA h v)).name ++ nwaB),h) := by
   rw [hR];unfold delS chS;rw [if_pos c2w]
  subst hn;exact pR
 ·have c2w : wokS h v = true := by
   have h9 := c2;unfold wokS;by_cases h1 : (zR h v).kind = 10 <;> by_cases h2 : (zR h v).kind = 11 <;> by_cases h3 : (zR h v).kind = 9 <;> by_cases h4 : v.r < 49 <;> simp_all
  have c1w := c2w;have wr := gG0 g c2w;have hwr := wr.inr;have hwe := wr.eo;have hwn := wr.nl;have hwi := wr.il;have hwq := wr.ni;have hwt := wr.st;refine zK (zA ?_);refine zB (zW zN [] [[],[],[0,1],[],[3],[3,4],(rgN 6)] 500 yQ (by kernel_rfl) rfl ?_);refine zH ?_;refine zC (zA (zB (zJ 600 ?_)));refine ev_condT rfl ?_;refine zW zN [] [[],[0],[],[2],[2,3],(rgN 5)] 700 yQ (by kernel_rfl) rfl ?_;refine zH ?_;refine zC (zA (zJ 800 ?_));refine vN (ι := {_u : Unit // R = chF h v s cndB (delF h v s)}) [0,2,4,6,8,10,11,12] [0,1,2,3,4,105] 2300 (fun _ => [(16,.v (.bool (fixS h v s)))]) (fun _ => []) ?_;refine ⟨?_,fun j => ?_⟩
  ·refine zJ 900 ?_;refine zS rfl (fun c8 => ?_) (fun c8 => ?_)
   ·have c8w : (zR h v).kind = 10 := by simpa using c8
    have hcin := uZ g c8w;have hfr : (chV h v s).k = 6 → qC h (chV h v s).r = true := fun hk9 => gS0 hh g hcin s hk9;have hfind := xM (md := true) h (zR h v).cls s hh hcin (kW hh g hcin);refine zB ?_;refine zB (zW zN [] mK15 1000 yQ (by kernel_rfl) rfl ?_);refine zH ?_;refine qG _ (hfind) rfl rfl ?_;refine zH ?_;refine zC (zA (zJ 1100 ?_));refine zS rfl (fun c10 => ?_) (fun c10 => ?_)
    ·have c10w : (chO h v s).isSome = true := c10;refine zB ?_;refine zB (zW zN [] mK1 1200 yQ (by kernel_rfl) rfl ?_);refine zH ?_;refine qG _ (jJ h (chV h v s)) rfl rfl ?_;refine zH ?_;refine zC (zA ?_);refine yO [0,2,4,6,8,10,11,12,13,14,15,17,19] [0,1,2,3,4,105,910,1105] 1210 [] [(1105,.box 36 (obD (zR h (chV h v s))))] ?_;refine ⟨⟨yI,⟨⟨rfl,SubL.same rfl⟩,yF⟩,rfl,rfl⟩,?_⟩;refine zJ 1300 ?_;refine zS rfl (fun c12 => ?_) (fun c12 => ?_)
     ·have c12w : (zR h (chV h v s)).kind = 12 := by simpa using c12
      have hp3 := kF g c12w;refine zB ?_;refine zB (zE zN [] 1400 rfl ?_);repeat (first | refine zF ?_ | refine zG ?_ | refine gJ0 ?_)
      refine zC (zA (zS rfl (fun c13 => ?_) (fun c13 => ?_)))
      ·have c13w : ((zR h (chV h v s)).items.getD 2 vl0).k = 0 := by simpa using c13
       refine zB (zE zN [] 1500 rfl ?_);refine zH ?_;refine zV _ ((kZ s ⟨#[100,101,108,101,116,101,100]⟩ (by omega) (by decide)).out (SubP.of_eq (by rw [zS1]))) rfl ?_;refine zH ?_;refine zC (zA (zM (zL (zL (zL ?_)))));refine uF ?_;have hn : R = (raS 36 (atB ++ s ++ cndB),h) := by
        rw [hR];unfold delS chS;rw [if_neg (by rw [c1w];decide),if_pos ⟨c8w,c10w,c12w,c13w⟩]
       subst hn;exact pR
      ·have c13w : ¬ ((zR h (chV h v s)).items.getD 2 vl0).k = 0 := by simpa using c13
       refine zK (zA ?_);refine zB (zE zN [] 1600 rfl ?_);repeat (first | refine zF ?_ | refine zG ?_ | refine gJ0 ?_)
       refine zV _ ((tC _ [v]).args ⟨SubP.refl _,SubP.slrSl (m := false) rfl,trivial⟩) rfl ?_;repeat (first | refine zF ?_ | refine zG ?_ | refine gJ0 ?_)
       refine zC (zA (zM (zL (zL ?_))));refine uF ?_;have hn : R = (caS ((zR h (chV h v s)).items.getD 2 vl0) [v],h) := by
        rw [hR];unfold delS chS;rw [if_neg (by rw [c1w];decide),if_neg (fun hh9 => c13w hh9.2.2.2),if_pos ⟨c8w,c10w,c12w⟩]
       subst hn;exact pR
     ·have c12w : ¬ (zR h (chV h v s)).kind = 12 := by simpa using c12
      refine zK (zA ?_);refine zB (zW zN [] mK16 1700 yQ (by kernel_rfl) rfl ?_);refine zH ?_;refine qG _ ((pN h (chV h v s) onEr [v] hh g hfr (by show 1 ≤ 1000000;decide)).args ⟨SubP.refl _,SubP.refl _,SubP.refl _,SubP.slrSl (m := false) rfl,trivial⟩) rfl rfl ?_;refine zH ?_;refine zC (zA (zJ 1800 ?_));refine zS rfl (fun c17 => ?_) (fun c17 => ?_)
      ·have c17w : (spS h (chV h v s) onEr).2.2 = true := c17;refine zJ 1900 ?_;refine zM (zL ?_);refine uF ?_;have hn : R = (caS (spS h (chV h v s) onEr).1 ((spS h (chV h v s) onEr).2.1 ++ [v]),h) := by
        rw [hR];unfold delS chS;rw [if_neg (by rw [c1w];decide),if_neg (fun hh9 => c12w hh9.2.2.1),if_neg (fun hh9 => c12w hh9.2.2),if_pos ⟨c8w,c10w,c17w⟩]
       subst hn;exact pR
      ·have c17w : (spS h (chV h v s) onEr).2.2 = false := c17;refine zK (zA ?_);refine zB (zW zN [] mK3 2000 yQ (by kernel_rfl) rfl ?_);repeat (first | refine zF ?_ | refine zG ?_ | refine dF0 ?_)
       refine zC (zA ?_);refine zE zN [] 2100 rfl ?_;refine zH ?_;refine zV _ (yW (yG h (zR h v).cls).order 28) rfl ?_;refine zH ?_;refine yM _ (fun hg5 => (uS [argN,uX,ctxN,uV] s).args ⟨SubP.slrSl rfl,SubP.refl _,trivial⟩) rfl ?_;refine zH ?_;refine yM _ (fun hg9 => yW (yG h (zR h v).cls).order 48) rfl ?_;refine zH ?_;refine zC ?_;have hj : R = chF h v s cndB (delF h v s) := by
        rw [hR];unfold delS chS;rw [if_neg (by rw [c1w];decide),if_neg (fun hh9 => c12w hh9.2.2.1),if_neg (fun hh9 => c12w hh9.2.2),if_neg (fun hh9 => by rw [c17w] at hh9;cases hh9.2.2)]
       exact yY ⟨(),hj⟩ ⟨⟨Sub.of_eq (congrArg (fun b => D.v (.bool b)) ((xJ0 c8w).symm)),yI⟩,yF,rfl,rfl⟩
    ·have c10w : (chO h v s).isSome = false := c10;refine zK (zA ?_);refine zB (zW zN [] mK3 2000 yQ (by kernel_rfl) rfl ?_);repeat (first | refine zF ?_ | refine zG ?_ | refine dF0 ?_)
     refine zC (zA ?_);refine zE zN [] 2100 rfl ?_;refine zH ?_;refine zV _ (yW (yG h (zR h v).cls).order 28) rfl ?_;refine zH ?_;refine yM _ (fun hg5 => (uS [argN,uX,ctxN,uV] s).args ⟨SubP.slrSl rfl,SubP.refl _,trivial⟩) rfl ?_;refine zH ?_;refine yM _ (fun hg9 => yW (yG h (zR h v).cls).order 48) rfl ?_;refine zH ?_;refine zC ?_;have hj : R = chF h v s cndB (delF h v s) := by
      rw [hR];unfold delS chS;rw [if_neg (by rw [c1w];decide),if_neg (fun hh9 => by rw [c10w] at hh9;cases hh9.2.1),if_neg (fun hh9 => by rw [c10w] at hh9;cases hh9.2.1),if_neg (fun hh9 => by rw [c10w] at hh9;cases hh9.2.1)]
     exact yY ⟨(),hj⟩ ⟨⟨Sub.of_eq (congrArg (fun b => D.v (.bool b)) ((xJ0 c8w).symm)),yI⟩,yF,rfl,rfl⟩
   ·have c8w : ¬ (zR h v).kind = 10 := by simpa using c8
    refine zK ?_;have hj : R = chF h v s cndB (delF h v s) := by
     rw [hR];unfold delS chS;rw [if_neg (by rw [c1w];decide),if_neg (fun hh9 => c8w hh9.1),if_neg (fun hh9 => c8w hh9.1),if_neg (fun hh9 => c8w hh9.1)]
    exact yY ⟨(),hj⟩ ⟨⟨Sub.of_eq (congrArg (fun b => D.v (.bool b)) ((mZ0 c8w).symm)),yI⟩,yF,rfl,rfl⟩
  have hj := j.2;refine zB (zJ 2400 ?_);refine zS rfl (fun c21 => ?_) (fun c21 => ?_)
  ·have c21w : fixS h v s = true := by simpa using c21
   refine zB (zE zN [] 2500 rfl ?_);refine zH ?_;refine zV _ ((kZ s ⟨#[100,101,108,101,116,101,100]⟩ (by omega) (by decide)).out (SubP.of_eq (by rw [zS1]))) rfl ?_;refine zH ?_;refine zC (zA (zM (zL ?_)));have hn : R = (raS 36 (atB ++ s ++ cndB),h) := by
    rw [hj,chF,if_pos c21w]
   subst hn;exact pR
  ·have c21w : fixS h v s = false := by simpa using c21
   refine zK (zA ?_);refine zB (zE zN [] 2500 rfl ?_);refine zH ?_;refine zV _ (vH (zR h v).names s) rfl ?_;refine zH ?_;refine zC (zA (zJ 2600 ?_));refine zJ 2700 ?_;refine yV 24 9 1 rfl ?_;refine yV 25 29 7 rfl ?_;refine gQ 2701 rfl ?_;refine zB (zJ 2800 ?_);refine zQ ?_;refine yB (ι := {k : Nat // k ≤ (zR h v).names.length}) [0,2,4,6,8,10,11,23,160] [0,1,2,3,4,105] 2800 (fun x => [(161,.v (.int .i64 x.1)),(24,.own 2700 1 ((((zR h v).names.take x.1).eraseIdx (ixN (zR h v).names s)).map sD)),(25,.mo 2701 (((zR h v).items.take x.1).eraseIdx (ixN (zR h v).names s)).length)]) (fun x => [(2700,.row 9 1 (((zR h v).names.take x.1).eraseIdx (ixN (zR h v).names s)).length),(2701,.mrow 29 7 (.map (((zR h v).items.take x.1).eraseIdx (ixN (zR h v).names s)) vlD vl0))]) (fun x => (zR h v).names.length - x.1) ⟨0,Nat.zero_le _⟩ ?_;refine ⟨⟨⟨Sub.int rfl,Sub.own rfl,Sub.mo rfl,yI⟩,⟨⟨rfl,rfl,rfl⟩,SubO.mr rfl,yF⟩,rfl,rfl⟩,fun x => ?_⟩;have hk1 : x.1 ≤ (zR h v).names.length := x.2;refine zJ 2900 ?_;refine zB (zS rfl (fun c27 => ?_) (fun c27 => ?_))
   ·have hlt : x.1 < (zR h v).names.length := by simpa using c27
    have hkat := bQ0 (s := s) hlt;have hlti : x.1 < (zR h v).items.length := by omega
    have hen : (((zR h v).names.take x.1).eraseIdx (ixN (zR h v).names s)).length ≤ 200 := Nat.le_trans (List.length_eraseIdx_le _ _) (by rw [List.length_take];omega);have hei : (((zR h v).items.take x.1).eraseIdx (ixN (zR h v).names s)).length ≤ 1000 := Nat.le_trans (List.length_eraseIdx_le _ _) (by rw [List.length_take];omega);refine zK (zA (zB (zQ (zJ 3000 ?_))));refine zB (zJ 3100 ?_);refine zS rfl (fun c29 => ?_) (fun c29 => ?_)
    ·have c29w : x.1 = ixN (zR h v).names s := hkat.1 (by simpa using c29);refine yE (zZ (zX (zA (yS zN [] 3400 ?_))));exact zU ⟨x.1 + 1,by omega⟩ ⟨⟨Sub.int (by push_cast;rfl),Sub.own (by rw [← c29w,zT0 hlt]),Sub.mo (by rw [← c29w,zT0 hlti]),yI⟩,⟨⟨rfl,rfl,by rw [← c29w,zT0 hlt]⟩,SubO.mr (by rw [← c29w,zT0 hlti]),yF⟩,rfl,rfl⟩ (by show (zR h v).names.length - (x.1 + 1) < (zR h v).names.length - x.1;omega)
    ·have c29w : ¬ x.1 = ixN (zR h v).names s := fun h9 => by
      have h8 := c29;simp [hkat.2 h9] at h8
     refine zK (zA ?_);refine zB (zW zN [] mK17 3200 yQ (by kernel_rfl) rfl ?_);repeat (first | refine zF ?_ | refine zG ?_ | refine cL0 ?_)
     refine zC (zA (zJ 3300 ?_));refine yD (fun c31 => ?_) (fun c31 => ?_)
     ·
      exact absurd (hkat.1 (by simpa using c31)) c29w
     ·
      refine zK (zO (zA (yS zN [] 3400 ?_)));exact zU ⟨x.1 + 1,by omega⟩ ⟨⟨Sub.int (by push_cast;rfl),Sub.own (by rw [xO0 ByteArray.empty hlt c29w,List.map_append];rfl),Sub.mo (by rw [xO0 vl0 hlti c29w,List.length_append];rfl),yI⟩,⟨⟨rfl,rfl,by rw [xO0 ByteArray.empty hlt c29w];simp⟩,SubO.mr (by rw [xO0 vl0 hlti c29w];exact (List.map_append (f := vlD) (l₂ := [(zR h v).items.getD (x.1 : Int).toNat vl0])).symm),yF⟩,rfl,rfl⟩ (by show (zR h v).names.length - (x.1 + 1) < (zR h v).names.length - x.1;omega)
   ·have hke : x.1 = (zR h v).names.length := by
     have h9 : ¬ x.1 < (zR h v).names.length := by simpa using c27
     omega
    refine yE (zZ (yA (zX (zA ?_))));refine vN (ι := {_u : Unit // R = (vlS vl0,h.set v.r.toNat (jL (cutO (zR h v) s)))}) [0,6,10,11] [0,1,2,4,105] 4200 (fun _ => [(24,.own 2700 1 ((cutO (zR h v) s).names.map sD)),(25,.mo 2701 (cutO (zR h v) s).items.length)]) (fun _ => [(2700,.row 9 1 (cutO (zR h v) s).names.length),(2701,.mrow 29 7 (.map (cutO (zR h v) s).items vlD vl0))]) ?_;refine ⟨?_,fun j2 => ?_⟩
    ·refine zQ ?_;refine zJ 3500 ?_;refine zS rfl (fun c34 => ?_) (fun c34 => ?_)
     ·have c34w : (ixI (zR h v).names s) < 0 := by simpa using c34
      refine zB (zW zN [] [[],[0],[0,1],[],[],(rgN 5),(rgN 6)] 3600 yQ (by kernel_rfl) rfl ?_);refine zH ?_;refine qG _ (Lacks_ok h v s g hcf (by omega)) rfl rfl ?_;refine zH ?_;refine zC (zA (zM (zP ?_)));refine uF ?_;have hn : R = (lkS h v s,h) := by rw [hj,chF,if_neg (by rw [c21w];decide),delF,if_pos c34w]
      subst hn;exact pR
     ·have c34w : ¬ (ixI (zR h v).names s) < 0 := by simpa using c34
      refine zJ 3700 ?_;refine yD (fun c36 => ?_) (fun c36 => ?_)
      ·
       exact absurd c36.1 c34w
      ·
       refine zJ 3900 ?_;refine yD (fun c38 => ?_) (fun c38 => ?_)
       ·
        exact absurd (by simpa using c38) c34w
       ·
        refine zK (zO ?_);have hj2 : R = (vlS vl0,h.set v.r.toNat (jL (cutO (zR h v) s))) := by rw [hj,chF,if_neg (by rw [c21w];decide),delF,if_neg c34w]
        have hqn : (cutO (zR h v) s).names = (((zR h v).names.take x.1).eraseIdx (ixN (zR h v).names s)) := by show (zR h v).names.eraseIdx (ixI (zR h v).names s).toNat = _;rw [hke,List.take_length,uP0 c34w]
        have hqi : (cutO (zR h v) s).items = (((zR h v).items.take x.1).eraseIdx (ixN (zR h v).names s)) := by show (zR h v).items.eraseIdx (ixI (zR h v).names s).toNat = _;rw [List.take_of_length_le (by omega),uP0 c34w]
        exact yY ⟨(),hj2⟩ ⟨⟨Sub.own (by rw [hqn]),Sub.mo (by rw [hqi]),yI⟩,⟨⟨rfl,rfl,by rw [hqn]⟩,SubO.mr (by rw [hqi]),yF⟩,rfl,rfl⟩
    have hj2 := j2.2;refine jI 2701 rfl (by repeat (first | exact trivial | exact rfl | exact (fun _ => rfl) | exact (fun h => absurd h (by decide)) | refine ⟨?_,?_⟩)) (by repeat (first | exact trivial | exact rfl | exact (fun _ => rfl) | exact (fun h => absurd h (by decide)) | refine ⟨?_,?_⟩)) ?_;refine zJ 4300 ?_;refine zB (zJ 4400 ?_);refine zS rfl (fun c41 => ?_) (fun c41 => ?_)
    ·have c41w : (zR h v).kind = 9 := by simpa using c41
     refine zE zN [] 4500 rfl ?_;repeat (first | refine zF ?_ | refine zG ?_ | refine cK0 ?_)
     refine zC (zA ?_);refine zB (zW zN [] mK5 4600 yQ (by kernel_rfl) rfl ?_);repeat (first | refine zF ?_ | refine zG ?_ | refine dE0 ?_)
     refine zC (zA (zJ 4700 ?_));refine zM ?_;subst hj2;exact FinH.ret 2 rfl rfl (Sub.ofP (SubP.agg (by repeat (first | exact trivial | exact SubP.refl _ | exact SubP.nilSl rfl | refine ⟨?_,?_⟩))) rfl rfl) ⟨⟨rfl,Sub.mo (by simp),rfl,trivial⟩,SubO.mp (wV (by rw [← bump_cut _ s c41w];exact yV0 { zR h v with state := (zR h v).state + 1 } _ _ _ _)),trivial⟩
    ·have c41w : ¬ (zR h v).kind = 9 := by simpa using c41
     refine zK (zA ?_);refine zB (zW zN [] mK5 4500 yQ (by kernel_rfl) rfl ?_);repeat (first | refine zF ?_ | refine zG ?_ | refine dE0 ?_)
     refine zC (zA (zJ 4600 ?_));refine zM ?_;subst hj2;exact FinH.ret 2 rfl rfl (Sub.ofP (SubP.agg (by repeat (first | exact trivial | exact SubP.refl _ | exact SubP.nilSl rfl | refine ⟨?_,?_⟩))) rfl rfl) ⟨⟨rfl,Sub.mo (by simp),rfl,trivial⟩,SubO.mp (wV (by rw [← bump_cut' _ s c41w];exact yV0 (zR h v) _ _ _ _)),trivial⟩
end Go.Proofs.YtbhndnphimmjjaaGreatDoor
