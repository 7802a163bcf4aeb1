/- Part 26 of the proof. -/
import Derived.Test.YtifgelimmddkpaaGreatDoorM25
namespace Go.Proofs.YtifgelimmddkpaaGreatDoor
open Go.RowKit
variable {md me : Bool}
theorem qJ1 (s : ByteArray) : atB ++ s ++ ⟨#[39,32,99,97,110,110,111,116,32,98,101,32]⟩ ++ ⟨#[119,114,105,116,116,101,110]⟩ = atB ++ s ++ cnwB := by
 rw [ByteArray.append_assoc (a := atB ++ s)];rfl
def ixN (l : List ByteArray) (s : ByteArray) : Nat := if ixI l s < 0 then l.length else (ixI l s).toNat
theorem ixN_at {l : List ByteArray} {s : ByteArray} {i : Nat} (hi : i < l.length) : (i : Int) = ixI l s ↔ i = ixN l s := by
 unfold ixN;split <;> omega
theorem ixN_pos {l : List ByteArray} {s : ByteArray} (h : ¬ ixI l s < 0) : ixN l s = (ixI l s).toNat := Aa h
theorem ixN_neg {l : List ByteArray} {s : ByteArray} (h : ixI l s < 0) : ixN l s = l.length := Ab h
theorem set_yes {l : List Vl} {i : Nat} {w a : Vl} (hi : i < l.length) : ((l.set i w).take i ++ [a]).set i w = (l.set i w).take (i + 1) := by
 have h2 : i < (l.set i w).length := by rw [Bp];exact hi
 rw [Cp h2,List.getElem_set_self,List.set_append_right _ _ (by rw [Au];omega),Au,Nat.min_eq_left (by omega),Nat.sub_self];rfl
theorem bV0 {l : List Vl} {i k : Nat} {w : Vl} (hi : i < l.length) (hk : ¬ i = k) : (l.set k w).take (i + 1) = (l.set k w).take i ++ [l.getD (i : Int).toNat vl0] := by
 have h2 : i < (l.set k w).length := by rw [Bp];exact hi
 rw [Cp h2,List.getElem_set_ne (fun e => hk e.symm),Aw,Ai,Ac hi];rfl
theorem set_row {l : List Vl} {a w : Vl} {i n : Nat} (hn : n = i) : (l.map vlD ++ [vlD a]).set n (vlD w) = ((l ++ [a]).set i w).map vlD := by
 rw [hn,List.map_set,Ad];rfl
theorem tU0 {h : List Ob} {v : Vl} {s : ByteArray} (h10 : (zO h v).kind = 10) : fixS h v s = ((jF (zX h (zO h v).cls).order 28 && jF [argN,wB,ctxN,vX] s) || (jF (zX h (zO h v).cls).order 48 && decide (s = bM))) := by
 unfold fixS;rw [Aa (by omega),Ab h10];by_cases h1 : s = argN ∨ s = wB ∨ s = ctxN ∨ s = vX
 ·rw [Ab h1];have h2 : jF [argN,wB,ctxN,vX] s = true := by simpa [jF] using h1
  have h3 : ¬ s = bM := by rcases h1 with rfl | rfl | rfl | rfl <;> decide
  rw [h2,Br h3];simp
 ·rw [Aa h1];have h2 : jF [argN,wB,ctxN,vX] s = false := by rw [← Bool.not_eq_true];intro h9;exact h1 (by simpa [jF] using h9)
  rw [h2];by_cases h3 : s = bM
  ·rw [Ab h3,Bg h3];simp
  ·rw [Aa h3,Br h3];simp
theorem fix_out {h : List Ob} {v : Vl} {s : ByteArray} (h10 : ¬ (zO h v).kind = 10) : fixS h v s = (decide ((zO h v).kind = 9) && (decide (s = gT) || decide (s = ordB))) := by
 unfold fixS;by_cases h9 : (zO h v).kind = 9
 ·rw [Ab h9,Bg h9];rfl
 ·rw [Aa h9,Aa h10,Br h9];rfl
theorem yT1 (o : Ob) (s : ByteArray) (w : Vl) (h : ¬ ixI o.names s < 0) : (qE o s w).names = o.names ∧ (qE o s w).items = o.items.set (ixN o.names s) w := by
 rw [qE,Aa h,ixN_pos h];exact ⟨rfl,rfl⟩
theorem yS1 (o : Ob) (s : ByteArray) (w : Vl) (h : ixI o.names s < 0) (hl : o.names.length = o.items.length) : (qE o s w).names = o.names ++ [s] ∧ (qE o s w).items = o.items.set (ixN o.names s) w ++ [w] := by
 rw [qE,Ab h,ixN_neg h,List.set_eq_of_length_le (by omega)];exact ⟨rfl,rfl⟩
theorem bump_put (o : Ob) (s : ByteArray) (w : Vl) (h9 : o.kind = 9) : { o with state := o.state + 1,names := (qE o s w).names,items := (qE o s w).items } = uU (qE o s w) := by
 unfold uU qE;split <;> simp [h9]
theorem bump_put' (o : Ob) (s : ByteArray) (w : Vl) (h9 : ¬ o.kind = 9) : { o with names := (qE o s w).names,items := (qE o s w).items } = uU (qE o s w) := by
 unfold uU qE;split <;> simp [h9]
namespace Gq
variable {md me : Bool}
theorem cO0 {P : Program} {K : DS → Prop} {p : Prop} {r : Out} (hr : r.sat P K) (hp : p := by first | (simp only [Av,kbs,Bi,Ak,Aq];omega) | (simp only [Av,kbs,Bi,Ak,Aq];have := hz;omega) | exact Dz) : (Out.need p r).sat P K := ⟨hp,hr⟩
theorem cN0 {P : Program} {K : DS → Prop} {p : Prop} {r : Out} (hr : r.sat P K) (hp : p := by first | exact ⟨by decide,by rw [hp3];decide⟩ | exact ⟨rfl,by rw [hp3];decide⟩ | exact Dz) : (Out.need p r).sat P K := ⟨hp,hr⟩
theorem zZ1 {P : Program} {K : DS → Prop} {p : Prop} {r : Out} (hr : r.sat P K) (hp : p := by first | exact ⟨hcin.1,hcin.2⟩ | exact ⟨rfl,hcin.2⟩ | exact ⟨by simp [MR.len],by simpa [MR.len] using hcin.2⟩ | rfl | (simp only [MR.len];done) | exact Dz) : (Out.need p r).sat P K := ⟨hp,hr⟩
theorem zY1 {P : Program} {K : DS → Prop} {p : Prop} {r : Out} (hr : r.sat P K) (hp : p := by first | exact ⟨hwr.1,hwr.2⟩ | exact ⟨rfl,hwr.2⟩ | exact ⟨by simp [MR.len],by simpa [MR.len] using hwr.2⟩ | rfl | (simp only [MR.len];done) | exact Dz) : (Out.need p r).sat P K := ⟨hp,hr⟩
theorem kC0 {T : List (Nat × TI)} {rs : List ResultVar} {n0 : Nat} {out d : D} {own' : List DOwn} {S : DS} (hk : Nat.ble n0 2 = true := by rfl) (h : finH T S rs = some d := by rfl) (hs : Sub d (out.ren (qH (iota n0) 2)) := by exact Sub.ofP (SubP.agg (SubPs.refl _)) rfl rfl) (ho : mA (iota n0) 2 S.ow 0 own' := by exact ⟨⟨rfl,Sub.mo rfl,rfl,trivial⟩,SubO.mp rfl,trivial⟩) : FinH T rs n0 out own' .ret S := FinH.ret 2 hk h hs ho
set_option maxHeartbeats 4000000 in
theorem ChangeF_G (h : List Ob) (v : Vl) (s : ByteArray) (w : Vl) (hh : HpIn h) (g : Uh h) (hv : qQ h v = true) (hs : s.size ≤ 100) : FnG Tryz.prog 24 [.bp 0 0,.agg (vlD v),.v (.string s),.agg (vlD w),.v (.bool false)] (hpO h) (.agg (stD (setS h v s w).1)) (hpO (setS h v s w).2) := by
 have hg5 := g.hi;obtain ⟨R,hR⟩ : ∃ R,R = setS h v s w := ⟨_,rfl⟩;rw [← hR];have hvr := vC hv;have hcf := cf_of g hv;have hci := clA_in g hcf;have hnz := nm_sz g hci;have hhl := hh.len;have hz : qB.size = 1 ∧ nwaB.size = 28 ∧ cnwB.size = 19 ∧ cndB.size = 19 ∧ atB.size = 11 ∧ cqB.size = 7 ∧ mqB.size = 8 ∧ nhB.size = 20 := by decide
 have hoz := obj_sz g v;refine qS zJ Tryz.func24 rfl rfl rfl rfl rfl rfl rfl ?_;intro w0 s0 mx;refine zL 100 ?_;refine zB (zU zJ [] mK1 200 yP (by kernel_rfl) rfl ?_);refine zF ?_;refine yN _ (qJ h v) rfl rfl ?_;refine zF ?_;refine zC (zA ?_);refine yH [0,2,4,6,8,10,11] [0,1,2,3,4,105] 210 [] [(105,.box 36 (obD (zO h v)))] ?_;refine ⟨⟨yG,⟨⟨rfl,SubL.same rfl⟩,yD⟩,rfl,rfl⟩,?_⟩;refine zB (zL 300 ?_);refine zS rfl (fun c2 => ?_) (fun c2 => ?_)
 ·have c2w : wokS h v = false := by
   have h9 := c2;unfold wokS;by_cases h1 : (zO h v).kind = 10 <;> by_cases h2 : (zO h v).kind = 11 <;> by_cases h3 : (zO h v).kind = 9 <;> by_cases h4 : v.r < 49 <;> simp_all
  refine zB (zU zJ [] mK24 400 yP (by kernel_rfl) rfl ?_);repeat (first | refine zG ?_ | refine zH ?_ | refine cO0 ?_)
  refine yN _ (dD h v g hcf) rfl rfl ?_;repeat (first | refine zG ?_ | refine zH ?_ | refine cO0 ?_)
  refine zT _ (wE _ _) rfl ?_;repeat (first | refine zG ?_ | refine zH ?_ | refine cO0 ?_)
  refine zC (zA (zK (zM ?_)));have hn : R = (raS 36 (qB ++ (zX h (clA h v)).name ++ nwaB),h) := by
   rw [hR];unfold setS chS;rw [Ab c2w]
  subst hn;exact kC0
 ·have c2w : wokS h v = true := by
   have h9 := c2;unfold wokS;by_cases h1 : (zO h v).kind = 10 <;> by_cases h2 : (zO h v).kind = 11 <;> by_cases h3 : (zO h v).kind = 9 <;> by_cases h4 : v.r < 49 <;> simp_all
  have c1w := c2w;have wr := wr_of g c2w;have hwr := wr.inr;have hwe := wr.eo;have hwn := wr.nl;have hwi := wr.il;have hwq := wr.ni;have hwt := wr.st;refine zN (zA ?_);refine zB (zU zJ [] [[],[],[0,1],[],[3],[3,4],(rgN 6)] 500 yP (by kernel_rfl) rfl ?_);refine zF ?_;refine zC (zA (zB (zL 600 ?_)));refine uR rfl ?_;refine zN (zA (zL 800 ?_));refine xF (ι := {_u : Unit // R = chF h v s cnwB (setF h v s w)}) [0,2,4,6,8,10,11,12] [0,1,2,3,4,105] 2300 (fun _ => [(16,.v (.bool (fixS h v s)))]) (fun _ => []) ?_;refine ⟨?_,fun j => ?_⟩
  ·refine zL 900 ?_;refine zS rfl (fun c8 => ?_) (fun c8 => ?_)
   ·have c8w : (zO h v).kind = 10 := by simpa using c8
    have hcin := inst_cls g c8w;have hfr : (chV h v s).k = 6 → yO h (chV h v s).r = true := fun hk9 => jL0 hh g hcin s hk9;have hfind := vI (md := true) h (zO h v).cls s hh hcin (cok_of hh g hcin);refine zB ?_;refine zB (zU zJ [] mK14 1000 yP (by kernel_rfl) rfl ?_);refine zF ?_;refine yN _ (hfind) rfl rfl ?_;refine zF ?_;refine zC (zA (zL 1100 ?_));refine zS rfl (fun c10 => ?_) (fun c10 => ?_)
    ·have c10w : (chO h v s).isSome = true := c10;refine zB ?_;refine zB (zU zJ [] mK1 1200 yP (by kernel_rfl) rfl ?_);refine zF ?_;refine yN _ (qJ h (chV h v s)) rfl rfl ?_;refine zF ?_;refine zC (zA ?_);refine yH [0,2,4,6,8,10,11,12,13,14,15,17,19] [0,1,2,3,4,105,910,1105] 1210 [] [(1105,.box 36 (obD (zO h (chV h v s))))] ?_;refine ⟨⟨yG,⟨⟨rfl,SubL.same rfl⟩,yD⟩,rfl,rfl⟩,?_⟩;refine zL 1300 ?_;refine zS rfl (fun c12 => ?_) (fun c12 => ?_)
     ·have c12w : (zO h (chV h v s)).kind = 12 := by simpa using c12
      have hp3 := prop_item g c12w;refine zB ?_;refine zB (zE zJ [] 1400 rfl ?_);repeat (first | refine zG ?_ | refine zH ?_ | refine cN0 ?_)
      refine zC (zA (zS rfl (fun c13 => ?_) (fun c13 => ?_)))
      ·have c13w : ((zO h (chV h v s)).items.getD 1 vl0).k = 0 := by simpa using c13
       refine zB (zE zJ [] 1500 rfl ?_);refine zF ?_;refine zT _ ((mO s ⟨#[119,114,105,116,116,101,110]⟩ (by omega) (by decide)).out (SubP.of_eq (by rw [qJ1]))) rfl ?_;refine zF ?_;refine zC (zA (zK (zM (zM (zM ?_)))));refine kL ?_;have hn : R = (raS 36 (atB ++ s ++ cnwB),h) := by
        rw [hR];unfold setS chS;rw [Aa (by rw [c1w];decide),Ab ⟨c8w,c10w,c12w,c13w⟩]
       subst hn;exact kC0
      ·have c13w : ¬ ((zO h (chV h v s)).items.getD 1 vl0).k = 0 := by simpa using c13
       refine zN (zA ?_);refine zB (zE zJ [] 1600 rfl ?_);repeat (first | refine zG ?_ | refine zH ?_ | refine cN0 ?_)
       refine zT _ ((mV _ [v,w]).args ⟨SubP.refl _,SubP.slrSl (m := false) rfl,trivial⟩) rfl ?_;repeat (first | refine zG ?_ | refine zH ?_ | refine cN0 ?_)
       refine zC (zA (zK (zM (zM ?_))));refine kL ?_;have hn : R = (caS ((zO h (chV h v s)).items.getD 1 vl0) [v,w],h) := by
        rw [hR];unfold setS chS;rw [Aa (by rw [c1w];decide),Aa (fun hh9 => c13w hh9.2.2.2),Ab ⟨c8w,c10w,c12w⟩]
       subst hn;exact kC0
     ·have c12w : ¬ (zO h (chV h v s)).kind = 12 := by simpa using c12
      refine zN (zA ?_);refine zB (zU zJ [] [[],[0],[0,1],[],[],[],(rgN 6),(rgN 7),(rgN 8),(rgN 8),[],[0,1,2,3,4,5,6,7,8,10],(rgN 12)] 1700 yP (by kernel_rfl) rfl ?_);refine zF ?_;refine yN _ ((wD h (chV h v s) onWr [v,w] hh g hfr (by show 2 ≤ 1000000;decide)).args ⟨SubP.refl _,SubP.refl _,SubP.refl _,SubP.slrSl (m := false) rfl,trivial⟩) rfl rfl ?_;refine zF ?_;refine zC (zA (zL 1800 ?_));refine zS rfl (fun c17 => ?_) (fun c17 => ?_)
      ·have c17w : (spS h (chV h v s) onWr).2.2 = true := c17;refine zL 1900 ?_;refine zK (zM ?_);refine kL ?_;have hn : R = (caS (spS h (chV h v s) onWr).1 ((spS h (chV h v s) onWr).2.1 ++ [v,w]),h) := by
        rw [hR];unfold setS chS;rw [Aa (by rw [c1w];decide),Aa (fun hh9 => c12w hh9.2.2.1),Aa (fun hh9 => c12w hh9.2.2),Ab ⟨c8w,c10w,c17w⟩]
       subst hn;exact kC0
      ·have c17w : (spS h (chV h v s) onWr).2.2 = false := c17;refine zN (zA ?_);refine zB (zU zJ [] mK7 2000 yP (by kernel_rfl) rfl ?_);repeat (first | refine zG ?_ | refine zH ?_ | refine zZ1 ?_)
       refine zC (zA ?_);refine zE zJ [] 2100 rfl ?_;refine zF ?_;refine zT _ (qN (zX h (zO h v).cls).order 28) rfl ?_;refine zF ?_;refine yS _ (fun hg5 => (uM [argN,wB,ctxN,vX] s).args ⟨SubP.slrSl rfl,SubP.refl _,trivial⟩) rfl ?_;refine zF ?_;refine yS _ (fun hg9 => qN (zX h (zO h v).cls).order 48) rfl ?_;refine zF ?_;refine zC ?_;have hj : R = chF h v s cnwB (setF h v s w) := by
        rw [hR];unfold setS chS;rw [Aa (by rw [c1w];decide),Aa (fun hh9 => c12w hh9.2.2.1),Aa (fun hh9 => c12w hh9.2.2),Aa (fun hh9 => by rw [c17w] at hh9;cases hh9.2.2)]
       exact qG ⟨(),hj⟩ ⟨⟨Sub.of_eq (congrArg (fun b => D.v (.bool b)) ((tU0 c8w).symm)),yG⟩,yD,rfl,rfl⟩
    ·have c10w : (chO h v s).isSome = false := c10;refine zN (zA ?_);refine zB (zU zJ [] mK7 2000 yP (by kernel_rfl) rfl ?_);repeat (first | refine zG ?_ | refine zH ?_ | refine zZ1 ?_)
     refine zC (zA ?_);refine zE zJ [] 2100 rfl ?_;refine zF ?_;refine zT _ (qN (zX h (zO h v).cls).order 28) rfl ?_;refine zF ?_;refine yS _ (fun hg5 => (uM [argN,wB,ctxN,vX] s).args ⟨SubP.slrSl rfl,SubP.refl _,trivial⟩) rfl ?_;refine zF ?_;refine yS _ (fun hg9 => qN (zX h (zO h v).cls).order 48) rfl ?_;refine zF ?_;refine zC ?_;have hj : R = chF h v s cnwB (setF h v s w) := by
      rw [hR];unfold setS chS;rw [Aa (by rw [c1w];decide),Aa (fun hh9 => by rw [c10w] at hh9;cases hh9.2.1),Aa (fun hh9 => by rw [c10w] at hh9;cases hh9.2.1),Aa (fun hh9 => by rw [c10w] at hh9;cases hh9.2.1)]
     exact qG ⟨(),hj⟩ ⟨⟨Sub.of_eq (congrArg (fun b => D.v (.bool b)) ((tU0 c8w).symm)),yG⟩,yD,rfl,rfl⟩
   ·have c8w : ¬ (zO h v).kind = 10 := by simpa using c8
    refine zN ?_;have hj : R = chF h v s cnwB (setF h v s w) := by
     rw [hR];unfold setS chS;rw [Aa (by rw [c1w];decide),Aa (fun hh9 => c8w hh9.1),Aa (fun hh9 => c8w hh9.1),Aa (fun hh9 => c8w hh9.1)]
    exact qG ⟨(),hj⟩ ⟨⟨Sub.of_eq (congrArg (fun b => D.v (.bool b)) ((fix_out c8w).symm)),yG⟩,yD,rfl,rfl⟩
  have hj := j.2;refine zB (zL 2400 ?_);refine zS rfl (fun c21 => ?_) (fun c21 => ?_)
  ·have c21w : fixS h v s = true := by simpa using c21
   refine zB (zE zJ [] 2500 rfl ?_);refine zF ?_;refine zT _ ((mO s ⟨#[119,114,105,116,116,101,110]⟩ (by omega) (by decide)).out (SubP.of_eq (by rw [qJ1]))) rfl ?_;refine zF ?_;refine zC (zA (zK (zM ?_)));have hn : R = (raS 36 (atB ++ s ++ cnwB),h) := by
    rw [hj,chF,Ab c21w]
   subst hn;exact kC0
  ·have c21w : fixS h v s = false := by simpa using c21
   refine zN (zA ?_);refine zB (zE zJ [] 2500 rfl ?_);refine zF ?_;refine zT _ (gF (zO h v).names s) rfl ?_;refine zF ?_;refine zC (zA (zL 2600 ?_));refine zL 2700 ?_;refine yW 24 9 1 rfl ?_;refine yW 25 29 7 rfl ?_;refine kM 2701 rfl ?_;refine zB (zL 2800 ?_);refine zR ?_;refine yC (ι := {k : Nat // k ≤ (zO h v).names.length}) [0,2,4,6,8,10,11,23,160] [0,1,2,3,4,105] 2800 (fun x => [(161,.v (.int .i64 x.1)),(24,.own 2700 1 (((zO h v).names.take x.1).map sD)),(25,.mo 2701 (((zO h v).items.set (ixN (zO h v).names s) w).take x.1).length)]) (fun x => [(2700,.row 9 1 ((zO h v).names.take x.1).length),(2701,.mrow 29 7 (.map (((zO h v).items.set (ixN (zO h v).names s) w).take x.1) vlD vl0))]) (fun x => (zO h v).names.length - x.1) ⟨0,Ap _⟩ ?_;refine ⟨⟨⟨Sub.int rfl,Sub.own rfl,Sub.mo rfl,yG⟩,⟨⟨rfl,rfl,rfl⟩,SubO.mr rfl,yD⟩,rfl,rfl⟩,fun x => ?_⟩;have hk1 : x.1 ≤ (zO h v).names.length := x.2;refine zL 2900 ?_;refine zB (zS rfl (fun c27 => ?_) (fun c27 => ?_))
   ·have hlt : x.1 < (zO h v).names.length := by simpa using c27
    have hkat := ixN_at (s := s) hlt;have hlti : x.1 < (zO h v).items.length := by omega
    refine zN (zA (zB (zR (zL 3000 ?_))));refine zB (zL 3100 ?_);refine zZ (fun c29 => ?_) (fun c29 => ?_)
    ·
     simp at c29
    ·
     refine zN (zA ?_);refine zB (zU zJ [] [[],[],[1],[],[1,2,3],[1,2,3,4],[1,2,3,4,5],(rgN 7),[],[],[9],[],[9,10,11],[9,10,11,12],[9,10,11,12,13],(rgN 15),(rgN 16),(rgN 17)] 3200 yP (by kernel_rfl) rfl ?_);repeat (first | refine zG ?_ | refine zH ?_ | refine zW (by first | rfl | exact ⟨by omega,by omega⟩ | exact ⟨rfl,by omega⟩ | (simp only [MR.len];done) | (simp only [MR.len,Ao,Au,Bp];omega) | exact Dz) ?_)
     refine zC (zA (zL 3300 ?_));refine zS rfl (fun c31 => ?_) (fun c31 => ?_)
     ·have c31w : x.1 = ixN (zO h v).names s := hkat.1 (by simpa using c31);have hl32 : (((zO h v).items.set (ixN (zO h v).names s) w).take x.1).length ≤ 1000 := by rw [Au,Bp];omega
      refine zE zJ [] 3400 rfl ?_;repeat (first | refine zG ?_ | refine zH ?_ | refine zW (by first | rfl | exact trivial | exact ini (by simp only [Ak,Aq];omega) (by simp only [Ak,Aq];omega) | (refine ⟨?_,?_⟩ <;> simp only [MR.len,Ak,Aq] <;> omega) | (simp only [MR.len];done) | exact Dz) ?_)
      refine zC (zP (zA (yT zJ [] 3500 ?_)));have hy := set_yes (l := (zO h v).items) (w := w) (a := (zO h v).items.getD (x.1 : Int).toNat vl0) hlti;exact zV ⟨x.1 + 1,by omega⟩ ⟨⟨Sub.int (by push_cast;rfl),Sub.own (by rw [yZ hlt ByteArray.empty,Ad];rfl),Sub.mo (by rw [← c31w,← hy,Bp,Ae];rfl),yG⟩,⟨⟨rfl,rfl,by rw [yZ hlt ByteArray.empty];simp⟩,SubO.mr (by rw [← c31w,← hy];exact set_row (by simp only [Ak,Aq,Au,Bp];omega)),yD⟩,rfl,rfl⟩ (by show (zO h v).names.length - (x.1 + 1) < (zO h v).names.length - x.1;omega)
     ·have c31w : ¬ x.1 = ixN (zO h v).names s := fun h9 => by
       have h8 := c31;simp [hkat.2 h9] at h8
      refine zN (zP (zA (yT zJ [] 3400 ?_)));exact zV ⟨x.1 + 1,by omega⟩ ⟨⟨Sub.int (by push_cast;rfl),Sub.own (by rw [yZ hlt ByteArray.empty,Ad];rfl),Sub.mo (by rw [bV0 hlti c31w,Ae];rfl),yG⟩,⟨⟨rfl,rfl,by rw [yZ hlt ByteArray.empty];simp⟩,SubO.mr (by rw [bV0 hlti c31w];exact (Ad (f := vlD) (l₂ := [(zO h v).items.getD (x.1 : Int).toNat vl0])).symm),yD⟩,rfl,rfl⟩ (by show (zO h v).names.length - (x.1 + 1) < (zO h v).names.length - x.1;omega)
   ·have hke : x.1 = (zO h v).names.length := by
     have h9 : ¬ x.1 < (zO h v).names.length := by simpa using c27
     omega
    refine yF (yA (yB (zY (zA ?_))));refine xF (ι := {_u : Unit // R = (vlS vl0,h.set v.r.toNat (uU (qE (zO h v) s w)))}) [0,6,10,11] [0,1,2,4,105] 4200 (fun _ => [(24,.own 2700 1 ((qE (zO h v) s w).names.map sD)),(25,.mo 2701 (qE (zO h v) s w).items.length)]) (fun _ => [(2700,.row 9 1 (qE (zO h v) s w).names.length),(2701,.mrow 29 7 (.map (qE (zO h v) s w).items vlD vl0))]) ?_;refine ⟨?_,fun j2 => ?_⟩
    ·refine zR ?_;refine zL 3500 ?_;refine zZ (fun c34 => ?_) (fun c34 => ?_)
     ·
      simp at c34
     ·
      refine zL 3700 ?_;refine zS rfl (fun c36 => ?_) (fun c36 => ?_)
      ·have c36w : (ixI (zO h v).names s) < 0 ∧ 200 ≤ (zO h v).names.length := by
        have h9 : (ixI (zO h v).names s) < 0 ∧ (200 : Int) ≤ (((zO h v).names.length : Nat) : Int) := by simpa using c36
        exact ⟨h9.1,by omega⟩
       refine zB (zE zJ [] 3800 rfl ?_);refine zF ?_;refine zT _ (wE _ _) rfl ?_;refine zF ?_;refine zC (zA (zK (zQ ?_)));refine kL ?_;have hn : R = (raS 42 tooB,h) := by rw [hj,chF,Aa (by rw [c21w];decide),setF,Ab c36w]
       subst hn;exact kC0
      ·have c36w : ¬ ((ixI (zO h v).names s) < 0 ∧ 200 ≤ (zO h v).names.length) := by
        intro h9;have h8 : (200 : Int) ≤ (((zO h v).names.length : Nat) : Int) := by omega
        have h7 := c36;simp only [Bg h9.1,Bg h8] at h7
        cases h7
       refine zL 3900 ?_;refine zS rfl (fun c38 => ?_) (fun c38 => ?_)
       ·have c38w : (ixI (zO h v).names s) < 0 := by simpa using c38
        refine zU zJ [] mK25 4000 yP (by kernel_rfl) rfl ?_;repeat (first | refine zG ?_ | refine zH ?_ | refine zW (by first | rfl | (simp only [MR.len];done) | (simp only [MR.len,Ao,Au,Bp];omega) | exact Dz) ?_)
        refine zC (zP ?_);have hj2 : R = (vlS vl0,h.set v.r.toNat (uU (qE (zO h v) s w))) := by rw [hj,chF,Aa (by rw [c21w];decide),setF,Aa c36w]
        have hqn : (qE (zO h v) s w).names = (((zO h v).names.take x.1) ++ [s]) := by rw [(yS1 _ _ w c38w hwq).1,hke,List.take_length]
        have hqi : (qE (zO h v) s w).items = ((((zO h v).items.set (ixN (zO h v).names s) w).take x.1) ++ [w]) := by rw [(yS1 _ _ w c38w hwq).2,An (by rw [Bp];omega)]
        exact qG ⟨(),hj2⟩ ⟨⟨Sub.own (by rw [hqn,Ad];rfl),Sub.mo (by rw [hqi,Ae];rfl),yG⟩,⟨⟨rfl,rfl,by rw [hqn];simp⟩,SubO.mr (by rw [hqi];exact (Ad (f := vlD) (l₂ := [w])).symm),yD⟩,rfl,rfl⟩
       ·have c38w : ¬ (ixI (zO h v).names s) < 0 := by simpa using c38
        refine zN (zP ?_);have hj2 : R = (vlS vl0,h.set v.r.toNat (uU (qE (zO h v) s w))) := by rw [hj,chF,Aa (by rw [c21w];decide),setF,Aa c36w]
        have hqn : (qE (zO h v) s w).names = ((zO h v).names.take x.1) := by rw [(yT1 _ _ w c38w).1,hke,List.take_length]
        have hqi : (qE (zO h v) s w).items = (((zO h v).items.set (ixN (zO h v).names s) w).take x.1) := by rw [(yT1 _ _ w c38w).2,An (by rw [Bp];omega)]
        exact qG ⟨(),hj2⟩ ⟨⟨Sub.own (by rw [hqn]),Sub.mo (by rw [hqi]),yG⟩,⟨⟨rfl,rfl,by rw [hqn]⟩,SubO.mr (by rw [hqi]),yD⟩,rfl,rfl⟩
    have hj2 := j2.2;refine uQ 2701 rfl (by repeat (first | exact trivial | exact rfl | exact (fun _ => rfl) | exact (fun h => absurd h (by decide)) | refine ⟨?_,?_⟩)) (by repeat (first | exact trivial | exact rfl | exact (fun _ => rfl) | exact (fun h => absurd h (by decide)) | refine ⟨?_,?_⟩)) ?_;refine zL 4300 ?_;refine zB (zL 4400 ?_);refine zS rfl (fun c41 => ?_) (fun c41 => ?_)
    ·have c41w : (zO h v).kind = 9 := by simpa using c41
     refine zE zJ [] 4500 rfl ?_;repeat (first | refine zG ?_ | refine zH ?_ | refine zW (by first | (show InI _;exact ⟨by have := hwt.1;show _ ≤ (zO h v).state + 1;omega,by have := hwt.2;show (zO h v).state + 1 ≤ _;omega⟩) | exact Dz) ?_)
     refine zC (zA ?_);refine zB (zU zJ [] [[],[0],[0,1],[0,1,2],[],[4],[],(rgN 7),(rgN 8)] 4600 yP (by kernel_rfl) rfl ?_);repeat (first | refine zG ?_ | refine zH ?_ | refine zY1 ?_)
     refine zC (zA (zL 4700 ?_));refine zK ?_;subst hj2;exact FinH.ret 2 rfl rfl (Sub.ofP (SubP.agg (by repeat (first | exact trivial | exact SubP.refl _ | exact SubP.nilSl rfl | refine ⟨?_,?_⟩))) rfl rfl) ⟨⟨rfl,Sub.mo (by simp),rfl,trivial⟩,SubO.mp (zF0 (by rw [← bump_put _ s w c41w];exact mW0 { zO h v with state := (zO h v).state + 1 } _ _ _ _)),trivial⟩
    ·have c41w : ¬ (zO h v).kind = 9 := by simpa using c41
     refine zN (zA ?_);refine zB (zU zJ [] [[],[0],[0,1],[0,1,2],[],[4],[],(rgN 7),(rgN 8)] 4500 yP (by kernel_rfl) rfl ?_);repeat (first | refine zG ?_ | refine zH ?_ | refine zY1 ?_)
     refine zC (zA (zL 4600 ?_));refine zK ?_;subst hj2;exact FinH.ret 2 rfl rfl (Sub.ofP (SubP.agg (by repeat (first | exact trivial | exact SubP.refl _ | exact SubP.nilSl rfl | refine ⟨?_,?_⟩))) rfl rfl) ⟨⟨rfl,Sub.mo (by simp),rfl,trivial⟩,SubO.mp (zF0 (by rw [← bump_put' _ s w c41w];exact mW0 (zO h v) _ _ _ _)),trivial⟩
end Gq
theorem tM0 {l : List Int} (h : 0 < l.length) : hdI l ∈ l := by
 cases l with
 | nil => cases h
 | cons a l => exact Ay
theorem tE0 (Q : Int → Prop) : ∀ (f : Nat) (taken : List Int) (left : List (List Int)),(∀ x ∈ taken,Q x) → (∀ l ∈ left,0 < l.length ∧ ∀ x ∈ l,Q x) → ∀ x ∈ (mgF f taken left).1,Q x
 | 0,taken,_,ht,_ => ht
 | _ + 1,taken,[],ht,_ => ht
 | f + 1,taken,l :: left,ht,hl => by
  unfold mgF;split
  ·exact ht
  ·rename_i h2;rw [Bool.not_eq_false] at h2;refine tE0 Q f _ _ (fun x hx => ?_) (fun y hy => ?_)
   ·rcases Ax.1 hx with hx | hx
    ·exact ht x hx
    ·rw [By.1 hx];have hf := yF0 (l :: left) ((l :: left).take (l :: left).length) (0,false) (fun h9 => by cases h9) (fun z hz => Ci hz) h2;obtain ⟨z,hz,e⟩ := hf;have e' : hdI z = (fdS (l :: left) (l :: left).length).1 := e;rw [← e'];exact (hl z hz).2 _ (tM0 (hl z hz).1)
   ·unfold rsS at hy;obtain ⟨hy1,hy2⟩ := List.mem_filter.1 hy;obtain ⟨z,hz,rfl⟩ := Bv.1 hy1;refine ⟨by have := Af hy2;omega,fun x hx => (hl z hz).2 x ?_⟩;unfold shI at hx;split at hx
    ·exact Di hx
    ·exact hx
theorem order_mem (Q : Int → Prop) {B : List (List Int)} (h0 : (uJ B).2.1 = 0) (hB : ∀ l ∈ B,∀ x ∈ l,Q x) : ∀ x ∈ (uJ B).1,Q x := by
 unfold uJ at h0 ⊢;split at h0
 ·intro x hx;rename_i h1;exact absurd h0 h1
 ·rename_i h1;have hg : (ofS B).1 = 0 := Classical.not_not.1 h1;have hgood : bF0 B := wW0 hg;split at h0
  ·cases h0
  ·rename_i h2;split at h0
   ·cases h0
   ·rename_i h3;rw [Aa (by rw [hg];exact fun h9 => h9 rfl),Aa h2,Aa h3];refine tE0 Q 400 [] (lft0 B) (fun x hx => by cases hx) (fun l hl => ?_);unfold lft0 at hl;have hin : ∀ l ∈ B,0 < l.length ∧ ∀ x ∈ l,Q x := fun l hl => ⟨(hgood.2 l hl).1,hB l hl⟩;split at hl
    ·rename_i h4;rcases Ax.1 hl with hl | hl
     ·exact hin l hl
     ·rw [By.1 hl];refine ⟨by omega,fun x hx => ?_⟩;obtain ⟨z,hz,rfl⟩ := Bv.1 hx;exact hB z hz _ (tM0 (hgood.2 z hz).1)
    ·exact hin l hl
theorem ord9 {h : List Ob} (g : Uh h) : ∀ (m i : Nat),i < m → i < h.length → ∀ r ∈ (zX h i).order,inH h r ∧ (zX h r).kind = 9
 | 0,_,hi,_ => by omega
 | m + 1,i,hi,hl => fun r hr => by
  have hlo := g.lo;by_cases h49 : i < 49
  ·rw [g.lo_at h49] at hr;have hb := gE0 h49 hr;refine ⟨⟨hb.1,by omega⟩,?_⟩;have hr2 : zX h r = bgO r.toNat := by
    have := g.lo_at (i := r.toNat) (by omega);rw [← this];show h.getD r.toNat ob0 = h.getD ((r.toNat : Nat) : Int).toNat ob0;rw [Aw]
   rw [hr2];rfl
  ·have u := g.hi_at (i := i) (by omega) hl;have ho := u.order;unfold uA at ho;split at ho
   ·rename_i hk;rw [(tS u.shape).2.2.2.2 hk] at hr
    cases hr
   ·rename_i hk;have hk9 : (zX h i).kind = 9 := Classical.not_not.1 hk;simp only [Ah,Am] at ho;rw [ho.2] at hr;rcases Ax.1 hr with hr | hr
    ·rw [By.1 hr];exact ⟨⟨by omega,by rw [Aw];exact hl⟩,hk9⟩
    ·refine order_mem (fun r => inH h r ∧ (zX h r).kind = 9) ho.1 (fun l hl' x hx => ?_) r hr;unfold tT at hl';obtain ⟨n,hn,rfl⟩ := Bv.1 hl';have hlk := u.links;unfold qY at hlk;rw [Aa (by omega),Aa (by omega),Aa (by omega),Aa (by omega),Ab hk9] at hlk;split at hlk
     ·rename_i hall;have hb := Bd.1 hall n hn;simp only [basP,cX0,Bc,Cl,At,Bo,Am,Bz] at hb;have hn0 : 0 ≤ n := by omega
      have e : zX h n = zX h ((n.toNat : Nat) : Int) := by
       show h.getD n.toNat ob0 = h.getD ((n.toNat : Nat) : Int).toNat ob0;rw [Aw]
      rw [e] at hx;exact ord9 g m n.toNat (by omega) (by omega) x hx
     ·cases hlk
theorem ord_cls {h : List Ob} (g : Uh h) {n : Int} (hn : inH h n) : ∀ r ∈ (zX h n).order,(zX h r).kind = 9 := fun r hr => by
 have e : zX h n = zX h ((n.toNat : Nat) : Int) := by
  show h.getD n.toNat ob0 = h.getD ((n.toNat : Nat) : Int).toNat ob0;rw [Aw]
 rw [e] at hr;exact (ord9 g (n.toNat + 1) n.toNat (Nat.lt_succ_self _) hn.2 r hr).2
theorem ord_hd {h : List Ob} (g : Uh h) {n : Int} (hn : inH h n) (hk : (zX h n).kind = 9) (h49 : 49 ≤ n) : (zX h n).order.head? = some n := by
 have u := g.hi_at (i := n.toNat) (by omega) hn.2;rw [← uB hn] at u;have ho := u.order;unfold uA at ho;rw [Aa (fun h9 => h9 hk)] at ho;simp only [Ah,Am] at ho;rw [ho.2];show some ((n.toNat : Nat) : Int) = some n;rw [show ((n.toNat : Nat) : Int) = n from Int.toNat_of_nonneg hn.1]
theorem c14_of {h : List Ob} (g : Uh h) {n : Int} (hn : inH h n) (hk : (zX h n).kind = 14) : uT h ((zX h n).items.getD 0 vl0) = true := by
 by_cases h49 : n.toNat < 49
 ·rw [show zX h n = bgO n.toNat from g.lo_at h49] at hk;have h9 : (bgO n.toNat).kind = 9 := rfl;omega
 ·have u := g.hi_at (i := n.toNat) (by omega) hn.2;rw [← uB hn] at u;have hl := u.links;unfold qY at hl;rw [Aa (by omega),Aa (by omega),Aa (by omega),Ab hk] at hl;exact hl
theorem bI {h : List Ob} {n : Int} (hi : yO h n = true) : zO h (rfV n) = zX h n := Ab ⟨rfl,hi⟩
theorem cK {h : List Ob} {n : Int} (hn : inH h n) (hk : (zX h n).kind ≠ 0) : yO h n = true := by
 obtain ⟨h0,h1⟩ := hn;simp only [yO,Ah,Am,Bc,At];exact ⟨⟨h0,by omega⟩,hk⟩
theorem gq_of {h : List Ob} (g : Uh h) (hh : HpIn h) : Gq.Uh h := by
 have hS : ∀ {n : Int},inH h n → (zX h n).kind ≠ 0 → zO h (rfV n) = zX h n := fun hn hk => bI (cK hn hk);refine ⟨g.lo,by have := g.hi;omega,g.kind,g.cls,g.items,nm_it g,fun hn r hr => ((cok_of hh g hn).2 r hr).1,one_item g,fun hn hk => ?_,fun hn hk => ?_,nm_sz g,gc_items g hh,fun hn hk => ?_,c14_of g,ord_cls g,fun hn hk h49 => ord_hd g hn hk h49,fun {n} hn hk => ?_⟩
 ·have e := hS hn (by omega);have := meth_item g (v := rfV _) (by rw [e];exact hk);rw [e] at this;exact this
 ·have e := hS hn (by omega);have := prop_item g (a := rfV _) (by rw [e];exact hk);rw [e] at this;exact this
 ·have e := hS hn (by omega);have := su_links g (v := rfV _) (by rw [e];exact hk);rw [e] at this;exact this
 ·have e := hS hn (by omega);have hw : wokS h (rfV n) = true := by
   unfold wokS;rw [e];simp only [Bz,Ah,Am,Bc,At];rcases hk with hk | hk
   ·exact .inl hk
   ·exact .inr ⟨hk.1,by show ¬ n < 49;omega⟩
  have w := wr_of g hw;have h1 := w.hi;have h2 := w.nl;have h3 := w.il;have h4 := w.ni;have h5 := w.st;rw [e] at h2 h3 h4 h5;exact ⟨h1,h2,h3,h4,h5.1,by omega⟩
namespace Gq
theorem at_set {h : List Ob} {n m : Int} {o : Ob} (hn : inH h n) (hm : inH h m) : zX (h.set n.toNat o) m = if m = n then o else zX h m := by
 show (h.set n.toNat o).getD m.toNat ob0 = if m = n then o else h.getD m.toNat ob0;rw [Ai,List.getElem?_set];by_cases e : m = n
 ·subst e;rw [Ab rfl,Ab hm.2,Ab rfl];rfl
 ·have hne : ¬ n.toNat = m.toNat := fun h9 => by
   have := hn.1;have := hm.1;omega
  rw [Aa hne,Aa e,Ai]
structure Sm (h h' : List Ob) : Prop where
 len : h'.length = h.length
 kind : ∀ {m : Int},inH h m → (zX h' m).kind = (zX h m).kind
 name : ∀ {m : Int},inH h m → (zX h' m).name = (zX h m).name
 cls : ∀ {m : Int},inH h m → (zX h' m).cls = (zX h m).cls
 ord : ∀ {m : Int},inH h m → (zX h' m).order = (zX h m).order
theorem Sm.isO {h h' : List Ob} (s : Sm h h') (m : Int) : yO h' m = yO h m := by
 unfold yO;rw [s.len];by_cases hm : inH h m
 ·have := s.kind hm;have e : (h'.getD m.toNat ob0).kind = (h.getD m.toNat ob0).kind := this;rw [e]
 ·have : (decide (0 ≤ m) && decide (m < h.length)) = false := by
   rw [← Bool.not_eq_true,Ah,Am,Am];exact fun h9 => hm ⟨h9.1,by omega⟩
  rw [this];rfl
theorem Sm.inH {h h' : List Ob} (s : Sm h h') {m : Int} : Go.Proofs.YtifgelimmddkpaaGreatDoor.inH h' m ↔ Go.Proofs.YtifgelimmddkpaaGreatDoor.inH h m := by
 unfold Go.Proofs.YtifgelimmddkpaaGreatDoor.inH;rw [s.len]
theorem Sm.obj {h h' : List Ob} (s : Sm h h') (v : Vl) : (zO h' v).kind = (zO h v).kind ∧ (zO h' v).name = (zO h v).name ∧ (zO h' v).cls = (zO h v).cls ∧ (zO h' v).order = (zO h v).order := by
 unfold zO;rw [s.isO];split
 ·rename_i h1;have hin := yJ h1.2;exact ⟨s.kind hin,s.name hin,s.cls hin,s.ord hin⟩
 ·exact ⟨rfl,rfl,rfl,rfl⟩
theorem Sm.gc {h h' : List Ob} (s : Sm h h') {x : Vl} (hx : Gc h x) : Gc h' x := ⟨⟨hx.1.vin,fun hk => by rw [s.len];exact hx.1.r hk⟩,hx.2⟩
theorem Sm.su {h h' : List Ob} (s : Sm h h') (o : Ob) : suC h' o = suC h o := by
 unfold suC;rw [(s.obj _).1,(s.obj _).2.2.1]
theorem Sm.call {h h' : List Ob} (s : Sm h h') (v : Vl) : uT h' v = uT h v := by
 unfold uT;rw [(s.obj v).1]
theorem Uh.set {h : List Ob} (g : Uh h) {n : Int} {o : Ob} (hn : inH h n) (hw : ((zX h n).kind = 10 ∨ (zX h n).kind = 11) ∨ ((zX h n).kind = 9 ∧ 49 ≤ n)) (he : o = { zX h n with names := o.names,items := o.items,state := o.state })
  (hg : ∀ x ∈ o.items,Gc h x) (hr : ∀ x ∈ o.items,x.k = 6 → yO h x.r = true) (hl : o.names.length ≤ 200 ∧ o.items.length ≤ 1000 ∧ o.names.length = o.items.length ∧ 0 ≤ o.state ∧ o.state ≤ 1099511627776000) : Uh (h.set n.toNat o) ∧ Sm h (h.set n.toNat o) := by
 have hA : ∀ {m : Int},inH h m → zX (h.set n.toNat o) m = if m = n then o else zX h m := fun hm => at_set hn hm;have hS : Sm h (h.set n.toNat o) := by
  refine ⟨Bp,fun hm => ?_,fun hm => ?_,fun hm => ?_,fun hm => ?_⟩
  all_goals
   rw [hA hm];split
   ·rename_i e;subst e;rw [he]
   ·rfl
 have hno : ∀ {m : Int},inH h m → ¬ (((zX h m).kind = 10 ∨ (zX h m).kind = 11) ∨ (zX h m).kind = 9) → zX (h.set n.toNat o) m = zX h m := fun {m} hm hk => by
  rw [hA hm,Aa];rintro rfl;exact hk (hw.imp id fun h9 => h9.1)
 refine ⟨⟨by rw [hS.len];exact g.lo,by rw [hS.len];exact g.hi,fun {m} hm => ?_,fun hm hk => ?_,fun {m} hm v hv hk => ?_,fun {m} hm => ?_,fun hm r hr' => ?_,fun hm hk => ?_,fun hm hk => ?_,fun hm hk => ?_,fun hm => ?_,fun {m} hm x hx => ?_,fun hm hk => ?_,fun hm hk => ?_,fun hm r hr' => ?_,fun hm hk h49 => ?_,fun {m} hm hk => ?_⟩,hS⟩
 ·rw [hS.isO] at hm;rw [hS.kind (yJ hm)];exact g.kind hm
 ·have hm := hS.inH.1 hm;rw [hS.kind hm] at hk;rw [hS.cls hm];exact hS.inH.2 (g.cls hm hk)
 ·have hm := hS.inH.1 hm;rw [hS.isO];rw [hA hm] at hv;split at hv
  ·exact hr v hv hk
  ·exact g.items hm hv hk
 ·have hm := hS.inH.1 hm;rw [hA hm];split
  ·omega
  ·exact g.ni hm
 ·have hm := hS.inH.1 hm;rw [hS.ord hm] at hr';exact hS.inH.2 (g.ord hm r hr')
 ·have hm := hS.inH.1 hm;rw [hS.kind hm] at hk;rw [hno hm (by omega)];exact g.one hm hk
 ·have hm := hS.inH.1 hm;rw [hS.kind hm] at hk;rw [hno hm (by omega),hS.call];exact g.m8 hm hk
 ·have hm := hS.inH.1 hm;rw [hS.kind hm] at hk;rw [hno hm (by omega)];exact g.p12 hm hk
 ·have hm := hS.inH.1 hm;rw [hS.name hm];exact g.nm hm
 ·have hm := hS.inH.1 hm;rw [hA hm] at hx;split at hx
  ·exact hS.gc (hg x hx)
  ·exact hS.gc (g.gc hm x hx)
 ·have hm := hS.inH.1 hm;rw [hS.kind hm] at hk;have q := g.su hm hk;rw [hno hm (by omega),hS.su,(hS.obj _).1];exact ⟨q.1,hS.inH.2 q.2.1,by rw [hS.ord q.2.1];exact q.2.2.1,q.2.2.2⟩
 ·have hm := hS.inH.1 hm;rw [hS.kind hm] at hk;rw [hno hm (by omega),hS.call];exact g.c14 hm hk
 ·have hm := hS.inH.1 hm;rw [hS.ord hm] at hr';rw [hS.kind (g.ord hm r hr')];exact g.cl9 hm r hr'
 ·have hm := hS.inH.1 hm;rw [hS.kind hm] at hk;rw [hS.ord hm];exact g.hd9 hm hk h49
 ·have hm := hS.inH.1 hm;rw [hS.kind hm] at hk;have q := g.wr hm hk;rw [hA hm];split
  ·exact ⟨q.1,hl⟩
  ·exact q
end Gq
structure Alk (h h' : List Ob) (To Tc : ByteArray → Prop) : Prop where
 isO : ∀ {m : Int},yO h m = true → yO h' m = true
 obj : ∀ {u : Vl},(u.k = 6 → yO h u.r = true) → (zO h' u).kind = (zO h u).kind ∧ (zO h' u).name = (zO h u).name ∧ (zO h' u).cls = (zO h u).cls ∧ (zO h' u).order = (zO h u).order
 its : ∀ {u : Vl},(u.k = 6 → yO h u.r = true) → (zO h u).kind = 12 ∨ (zO h u).kind = 13 ∨ (zO h u).kind = 14 → (zO h' u).items = (zO h u).items
 own : ∀ {u : Vl},(u.k = 6 → yO h u.r = true) → ∀ t,To t → ownB (zO h' u) t = ownB (zO h u) t ∧ ownV (zO h' u) t = ownV (zO h u) t
 cla : ∀ {c : Int},inH h c → (zX h c).kind = 9 → ∀ t,Tc t → ownB (zX h' c) t = ownB (zX h c) t ∧ ownV (zX h' c) t = ownV (zX h c) t
 nam : ∀ {c : Int},inH h c → (zX h' c).name = (zX h c).name ∧ (zX h' c).order = (zX h c).order ∧ (zX h' c).kind = (zX h c).kind ∧ (zX h' c).cls = (zX h c).cls
section
variable {h h' : List Ob} {To Tc : ByteArray → Prop} (A : Alk h h' To Tc) (g : Gq.Uh h) (hh : HpIn h)
include A
theorem Alk.fO {L : List Int} (hL : ∀ r ∈ L,inH h r ∧ (zX h r).kind = 9) {t : ByteArray} (ht : Tc t) : fdO h' L t = fdO h L t := by
 induction L with
 | nil => rfl
 | cons r L ih =>
  have h1 := hL r Ay;have h2 := (A.cla h1.1 h1.2 t ht).1;unfold Go.Proofs.YtifgelimmddkpaaGreatDoor.fdO at ih ⊢;rw [List.find?_cons,List.find?_cons,h2,ih fun x hx => hL x (Az _ hx)]
theorem Alk.fV {L : List Int} (hL : ∀ r ∈ L,inH h r ∧ (zX h r).kind = 9) {t : ByteArray} (ht : Tc t) : fdV h' t (fdO h L t) = fdV h t (fdO h L t) := by
 cases hf : Go.Proofs.YtifgelimmddkpaaGreatDoor.fdO h L t with
 | none => rfl
 | some r =>
  have h1 := hL r (Cw hf);exact (A.cla h1.1 h1.2 t ht).2
omit A in
theorem ords (g : Gq.Uh h) {c : Int} (hc : inH h c) : ∀ r ∈ (zX h c).order,inH h r ∧ (zX h r).kind = 9 := fun r hr => ⟨g.ord hc r hr,g.cl9 hc r hr⟩
omit A in
theorem zE1 (g : Gq.Uh h) {c : Int} (hc : inH h c) (s : ByteArray) : (fdV h s (fdO h (zX h c).order s)).k = 6 → yO h (fdV h s (fdO h (zX h c).order s)).r = true := by
 intro hk
 cases hf : Go.Proofs.YtifgelimmddkpaaGreatDoor.fdO h (zX h c).order s with
 | none => rw [hf] at hk;exact absurd hk (show ¬ (0 : Int) = 6 by decide)
 | some r =>
  rw [hf] at hk;exact Gq.own_rv g (g.ord hc r (Cw hf)) s hk
end
section
variable {h h' : List Ob} {To Tc : ByteArray → Prop} (A : Alk h h' To Tc) (g : Gq.Uh h) (hR : Tc onR)
include A g hR
end
theorem jM {h : List Ob} {o : Ob} {m : Int} (hm : inH h m) : zX (h ++ [o]) m = zX h m := by
 show (h ++ [o]).getD m.toNat ob0 = h.getD m.toNat ob0;rw [Ai,Ai,Bl hm.2]
theorem zV0 {h : List Ob} {o : Ob} {m : Int} (hm : yO h m = true) : yO (h ++ [o]) m = true := by
 have hin := yJ hm;have e := jM (o := o) hin;unfold yO at hm ⊢;rw [show (h ++ [o]).getD m.toNat ob0 = h.getD m.toNat ob0 from e];simp only [Ah,Am] at hm ⊢;refine ⟨⟨hm.1.1,?_⟩,hm.2⟩;have := hm.1.2;rw [Ae,Cj];omega
theorem mB {h : List Ob} {o : Ob} {u : Vl} (hu : u.k = 6 → yO h u.r = true) : zO (h ++ [o]) u = zO h u := by
 by_cases h6 : u.k = 6
 ·rw [show zO (h ++ [o]) u = zX (h ++ [o]) u.r from Ab ⟨h6,zV0 (hu h6)⟩,show zO h u = zX h u.r from Ab ⟨h6,hu h6⟩,jM (yJ (hu h6))]
 ·rw [bJ h6,bJ h6]
theorem alk_app {h : List Ob} {o : Ob} {To Tc : ByteArray → Prop} : Alk h (h ++ [o]) To Tc := by
 refine ⟨zV0,fun {u} hu => ?_,fun {u} hu _ => by rw [mB hu],fun {u} hu t _ => ?_,fun {c} hc _ t _ => ?_,fun {c} hc => ?_⟩
 ·rw [mB hu];exact ⟨rfl,rfl,rfl,rfl⟩
 ·rw [mB hu];exact ⟨rfl,rfl⟩
 ·rw [jM hc];exact ⟨rfl,rfl⟩
 ·rw [jM hc];exact ⟨rfl,rfl,rfl,rfl⟩
namespace Gq
theorem in_app {h : List Ob} {o : Ob} {m : Int} (hm : inH (h ++ [o]) m) : inH h m ∨ (zX (h ++ [o]) m = o ∧ m = (h.length : Nat)) := by
 obtain ⟨h0,h1⟩ := hm;rw [Ae,Cj] at h1;by_cases hl : m.toNat < h.length
 ·exact .inl ⟨h0,hl⟩
 ·have e : m.toNat = h.length := by omega
  refine .inr ⟨?_,by omega⟩;show (h ++ [o]).getD m.toNat ob0 = o;rw [Ai,e,Cd (Ar _),Nat.sub_self];rfl
theorem in_app' {h : List Ob} {o : Ob} {m : Int} (hm : inH h m) : inH (h ++ [o]) m := ⟨hm.1,by rw [Ae];have := hm.2;omega⟩
theorem tP0 {h : List Ob} {o : Ob} {x : Vl} (hx : Gc h x) : Gc (h ++ [o]) x := ⟨⟨hx.1.vin,fun hk => by have := hx.1.r hk;rw [Ae];push_cast;omega⟩,hx.2⟩
theorem Uh.app {h : List Ob} (g : Uh h) {o : Ob} (hk : o.kind = 8 ∨ o.kind = 1) (hn : o.names = []) (ho : o.order = []) (hnm : o.name.size ≤ 700) (hg : ∀ x ∈ o.items,Gc h x) (hr : ∀ x ∈ o.items,x.k = 6 → yO h x.r = true)
  (h8 : o.kind = 8 → 0 < o.items.length ∧ uT h (o.items.getD 0 vl0) = true) (hl : h.length < 100000) : Uh (h ++ [o]) := by
 have hcs : ∀ {u : Vl},(u.k = 6 → yO h u.r = true) → uT (h ++ [o]) u = uT h u := fun hu => by unfold uT;rw [mB hu]
 have hit : ∀ {n : Int},inH h n → ∀ k,((zX h n).items.getD k vl0).k = 6 → yO h ((zX h n).items.getD k vl0).r = true := fun {n} hn k h6 => by
  by_cases hk : k < (zX h n).items.length
  ·refine g.items hn ?_ h6;rw [Ai,Ac hk];exact Ca hk
  ·rw [Ai,Dd (by omega)] at h6;exact absurd h6 (show ¬ (0 : Int) = 6 by decide)
 refine ⟨by rw [Ae];have := g.lo;omega,by rw [Ae,Cj];omega,fun {n} hm => ?_,fun {n} hm hk9 => ?_,fun {n} hm v hv h6 => ?_,fun {n} hm => ?_,fun {n} hm r hr9 => ?_,fun {n} hm hk9 => ?_,fun {n} hm hk9 => ?_,fun {n} hm hk9 => ?_,fun {n} hm => ?_,fun {n} hm x hx => ?_,fun {n} hm hk9 => ?_,fun {n} hm hk9 => ?_,fun {n} hm r hr9 => ?_,fun {n} hm hk9 h49 => ?_,fun {n} hm hk9 => ?_⟩
 ·rcases in_app (yJ hm) with hi | ⟨e,_⟩
  ·have hm' : yO h n = true := by
    have hk0 : (zX (h ++ [o]) n).kind ≠ 0 := fun h9 => by
     unfold yO at hm;rw [show ((h ++ [o]).getD n.toNat ob0).kind = 0 from h9] at hm;simp at hm
    rw [jM hi] at hk0;exact cK hi hk0
   rw [jM hi];exact g.kind hm'
  ·rw [e];omega
 ·rcases in_app hm with hi | ⟨e,_⟩
  ·rw [jM hi] at hk9 ⊢;exact in_app' (g.cls hi hk9)
  ·rw [e] at hk9;omega
 ·rcases in_app hm with hi | ⟨e,_⟩
  ·rw [jM hi] at hv;exact zV0 (g.items hi hv h6)
  ·rw [e] at hv;exact zV0 (hr v hv h6)
 ·rcases in_app hm with hi | ⟨e,_⟩
  ·rw [jM hi];exact g.ni hi
  ·rw [e,hn];exact Ap _
 ·rcases in_app hm with hi | ⟨e,_⟩
  ·rw [jM hi] at hr9;exact in_app' (g.ord hi r hr9)
  ·rw [e,ho] at hr9;cases hr9
 ·rcases in_app hm with hi | ⟨e,_⟩
  ·rw [jM hi] at hk9 ⊢;exact g.one hi hk9
  ·rw [e] at hk9;omega
 ·rcases in_app hm with hi | ⟨e,_⟩
  ·rw [jM hi] at hk9 ⊢;rw [hcs (hit hi 0)];exact g.m8 hi hk9
  ·rw [e] at hk9 ⊢;have q := h8 hk9;rw [hcs fun h6 => hr _ (by rw [Ai,Ac q.1];exact Ca q.1) h6];exact q
 ·rcases in_app hm with hi | ⟨e,_⟩
  ·rw [jM hi] at hk9 ⊢;exact g.p12 hi hk9
  ·rw [e] at hk9;omega
 ·rcases in_app hm with hi | ⟨e,_⟩
  ·rw [jM hi];exact g.nm hi
  ·rw [e];exact hnm
 ·rcases in_app hm with hi | ⟨e,_⟩
  ·rw [jM hi] at hx;exact tP0 (g.gc hi x hx)
  ·rw [e] at hx;exact tP0 (hg x hx)
 ·rcases in_app hm with hi | ⟨e,_⟩
  ·rw [jM hi] at hk9 ⊢;have q := g.su hi hk9;have e1 := mB (o := o) (hit hi 1);have e2 : suC (h ++ [o]) (zX h n) = suC h (zX h n) := by unfold suC;rw [e1]
   rw [e2,e1,jM q.2.1];exact ⟨q.1,in_app' q.2.1,q.2.2⟩
  ·rw [e] at hk9;omega
 ·rcases in_app hm with hi | ⟨e,_⟩
  ·rw [jM hi] at hk9 ⊢;rw [hcs (hit hi 0)];exact g.c14 hi hk9
  ·rw [e] at hk9;omega
 ·rcases in_app hm with hi | ⟨e,_⟩
  ·rw [jM hi] at hr9;rw [jM (g.ord hi r hr9)];exact g.cl9 hi r hr9
  ·rw [e,ho] at hr9;cases hr9
 ·rcases in_app hm with hi | ⟨e,_⟩
  ·rw [jM hi] at hk9 ⊢;exact g.hd9 hi hk9 h49
  ·rw [e] at hk9;omega
 ·rcases in_app hm with hi | ⟨e,_⟩
  ·rw [jM hi] at hk9 ⊢;exact g.wr hi hk9
  ·rw [e] at hk9;omega
end Gq
namespace Sr
theorem bump_n (o : Ob) : (uU o).names = o.names := by unfold uU;split <;> rfl
theorem bump_i (o : Ob) : (uU o).items = o.items := by unfold uU;split <;> rfl
theorem bump_st (o : Ob) : (uU o).state = o.state ∨ (uU o).state = o.state + 1 := by
 unfold uU;split
 ·exact .inr rfl
 ·exact .inl rfl
theorem wok_k {h : List Ob} (g : Gq.Uh h) {v : Vl} (hw : wokS h v = true) : ((zX h v.r).kind = 10 ∨ (zX h v.r).kind = 11) ∨ ((zX h v.r).kind = 9 ∧ 49 ≤ v.r) := by
 have wr := Gq.wr_of g hw;unfold wokS at hw;rw [wr.eo] at hw;simp only [Bz,Ah,Am,Bc,At] at hw;exact hw.imp id fun h9 => ⟨h9.1,by omega⟩
theorem chg {h : List Ob} (g : Gq.Uh h) (hh : HpIn h) {v : Vl} (hw : wokS h v = true) {o : Ob} (he : o = { zO h v with names := o.names,items := o.items,state := o.state })
  (hg : ∀ x ∈ o.items,Gc h x) (hr : ∀ x ∈ o.items,x.k = 6 → yO h x.r = true) (hz : ∀ x ∈ o.names,x.size ≤ 2000000)
  (hl : o.names.length ≤ 200 ∧ o.items.length ≤ 1000 ∧ o.names.length = o.items.length ∧ 0 ≤ o.state ∧ o.state ≤ 1099511627776000) :
  Gq.Uh (h.set v.r.toNat o) ∧ HpIn (h.set v.r.toNat o) ∧ Gq.Sm h (h.set v.r.toNat o) := by
 have wr := Gq.wr_of g hw;rw [wr.eo] at he;have hs := g.set wr.inr (wok_k g hw) he hg hr hl;refine ⟨hs.1,⟨fun x hx => ?_,by rw [Bp];exact hh.len⟩,hs.2⟩;rcases Dw hx with h1 | h1
 ·exact hh.ob x h1
 ·rw [h1,he];have oi := hh.at v.r;exact ⟨oi.kd,oi.cl,oi.co,(by show -9223372036854775808 ≤ o.state ∧ o.state ≤ 9223372036854775807;omega),oi.nm,oi.rl,oi.ol,(by show o.names.length ≤ 2000000;omega),(by show o.items.length ≤ 2000000;omega),oi.kl,hz,fun x hx => (hg x hx).1.vin,oi.kv⟩
theorem rf_obj {h : List Ob} (g : Gq.Uh h) {a : Vl} : ∀ x ∈ (zO h a).items,x.k = 6 → yO h x.r = true := fun x hx h6 => by
 by_cases hk : a.k = 6 ∧ yO h a.r = true
 ·rw [show zO h a = zX h a.r from Ab hk] at hx;exact g.items (yJ hk.2) hx h6
 ·rw [show zO h a = ob0 from Aa hk] at hx
  cases hx
theorem yR1 {h : List Ob} (g : Gq.Uh h) {a : Vl} (k : Nat) : ((zO h a).items.getD k vl0).k = 6 → yO h ((zO h a).items.getD k vl0).r = true := fun h6 => by
 rw [Ai] at h6 ⊢
 cases hq : (zO h a).items[k]? with
 | none => rw [hq] at h6;exact absurd h6 (show ¬ (0 : Int) = 6 by decide)
 | some x => rw [hq] at h6;exact rf_obj g x (Bb hq) h6
structure NwO (h : List Ob) (o : Ob) : Prop where
 kd : o.kind = 8 ∨ o.kind = 1
 nm : o.names = []
 od : o.order = []
 sz : o.name.size ≤ 700
 gc : ∀ x ∈ o.items,Gc h x
 rf : ∀ x ∈ o.items,x.k = 6 → yO h x.r = true
 m8 : o.kind = 8 → 0 < o.items.length ∧ uT h (o.items.getD 0 vl0) = true
 oc : ObC (h.length + 1) o
 co : cO o ≤ 100000000
def Nw (h h' : List Ob) : Prop := h' = h ∨ ∃ o,h' = h ++ [o] ∧ NwO h o
theorem zB1 {h : List Ob} {f u : Vl} (hf : Gc h f) (hu : Gc h u) (rf : f.k = 6 → yO h f.r = true) (ru : u.k = 6 → yO h u.r = true) (hc : uT h f = true) : NwO h (mtO f u) := by
 have hl : ∀ x ∈ [f,u],Gc h x := fun x hx => by
  simp only [Be,Du,or_false] at hx;rcases hx with rfl | rfl
  ·exact hf
  ·exact hu
 refine ⟨.inl rfl,rfl,rfl,by show ByteArray.empty.size ≤ 700;decide,hl,fun x hx => ?_,fun _ => ⟨by show 0 < 2;omega,hc⟩,(pD0 (k := 8) (.inl rfl) hl (by show 2 ≤ 1000;omega)).1,(pD0 (k := 8) (.inl rfl) hl (by show 2 ≤ 1000;omega)).2⟩;have hx : x ∈ [f,u] := hx;simp only [Be,Du,or_false] at hx;rcases hx with rfl | rfl
 ·exact rf
 ·exact ru
theorem zN1 {h : List Ob} (g : Gq.Uh h) (hh : HpIn h) {a v : Vl} {c : Int} {b : Bool} (ha : Gc h a) (ra : a.k = 6 → yO h a.r = true) (hv : Gc h v) (rv : v.k = 6 → yO h v.r = true) (hc : yO h c = true) : Nw h (bdS h a v c b).2 := by
 unfold bdS;split
 ·rename_i h1;rw [Ah] at h1;exact .inr ⟨_,rfl,zB1 ha hv ra rv h1.2⟩
 ·split
  ·exact .inl rfl
  ·split
   ·rename_i h14;have hl := g.hi;obtain ⟨_,ho,e⟩ := qD (h := h) (v := a) (by omega);refine .inr ⟨_,rfl,zB1 (Gq.gc_obj g hh a |> fun q => vD q 0) (jF0 (yJ hc) (by omega)) (yR1 g 0) (fun _ => hc) ?_⟩;rw [e] at h14 ⊢;exact g.c14 (yJ ho) h14
   ·split
    ·exact .inl rfl
    ·exact .inl rfl
theorem nw_ok {h h' : List Ob} (n : Nw h h') (g : Gq.Uh h) (hh : HpIn h) (hl : h.length < 100000) : Gq.Uh h' ∧ HpIn h' := by
 rcases n with rfl | ⟨o,rfl,q⟩
 ·exact ⟨g,hh⟩
 ·refine ⟨g.app q.kd q.nm q.od q.sz q.gc q.rf q.m8 hl,fun x hx => ?_,by rw [Ae,Cj];omega⟩;rcases Ax.1 hx with h1 | h1
  ·exact hh.ob x h1
  ·rw [By.1 h1];exact q.oc.oin
theorem nw_alk {h h' : List Ob} (n : Nw h h') {To Tc : ByteArray → Prop} : Alk h h' To Tc := by
 rcases n with rfl | ⟨o,rfl,_⟩
 ·exact ⟨id,fun _ => ⟨rfl,rfl,rfl,rfl⟩,fun _ _ => rfl,fun _ _ _ => ⟨rfl,rfl⟩,fun _ _ _ _ => ⟨rfl,rfl⟩,fun _ => ⟨rfl,rfl,rfl,rfl⟩⟩
 ·exact alk_app
theorem nw_in {h h' : List Ob} (n : Nw h h') {c : Int} (hc : inH h c) : inH h' c := by
 rcases n with rfl | ⟨o,rfl,_⟩
 ·exact hc
 ·exact Gq.in_app' hc
theorem bi_gc {h : List Ob} {c : Int} {s : ByteArray} (hc : inH h c) (g : Gq.Uh h) (hs : s.size ≤ 100) : Gc h (biV ((zX h c).name ++ dotB ++ s)) := by
 have h2 := g.nm hc;have q1 : dotB.size ≤ 100 := by decide
 refine ⟨⟨⟨(by decide : (-9223372036854775808 : Int) ≤ 7),(by decide : (7 : Int) ≤ 9223372036854775807),(by decide : (-9223372036854775808 : Int) ≤ 0),(by decide : (0 : Int) ≤ 9223372036854775807),(fun _ h => by cases h),(fun _ h => by cases h),(by decide : 0 ≤ 2000000),(by decide : 0 ≤ 2000000),?_⟩,fun hk => absurd hk (by show ¬ (7 : Int) = 6;decide)⟩,?_⟩
 ·show ((zX h c).name ++ dotB ++ s).size ≤ 2000000;rw [Av,Av];omega
 ·have e : cV (biV ((zX h c).name ++ dotB ++ s)) = 60 + 10 * ((zX h c).name ++ dotB ++ s).size + 8 * 0 + 8 * 0 := rfl;rw [Av,Av] at e;omega
theorem gat_nw {h : List Ob} (g : Gq.Uh h) (hh : HpIn h) {v : Vl} {s : ByteArray} (hv : Gc h v) (rv : v.k = 6 → yO h v.r = true) (hs : s.size ≤ 100) (hcl : inH h (clA h v)) (hc : (zO h v).kind = 10 → yO h (zO h v).cls = true)
  (hol : (zO h v).kind = 9 → (zO h v).order.length ≤ 1000) (hsu : (zO h v).kind = 15 → yO h (suC h (zO h v)) = true) : Nw h (jQ h v s).2 := by
 have hhl := g.hi;unfold jQ;split
 ·rename_i hk;have hci := hc hk;have hL := ords g (yJ hci);have ha := Gq.gc_fd g hh (L := (zX h (zO h v).cls).order) (fun r hr => (hL r hr).1) s;have ra := zE1 g (yJ hci) s;unfold wiS;repeat' split
  all_goals first | exact .inl rfl | exact zN1 g hh ha ra hv rv hci
 ·split
  ·rename_i hk;obtain ⟨h6,ho,e⟩ := qD (h := h) (v := v) (by omega);have hin := yJ ho;have hL : ∀ r ∈ (zO h v).order,inH h r ∧ (zX h r).kind = 9 := by rw [e];exact ords g hin
   unfold clsS;split
   ·exact .inl rfl
   ·split
    ·have hl : ∀ x ∈ (zO h v).order.map rfV,Gc h x := fun x hx => by
      obtain ⟨r,hr,rfl⟩ := Bv.1 hx;exact jF0 (hL r hr).1 (by omega)
     have q := pD0 (k := 1) (.inr rfl) hl (by rw [Ao];exact hol hk);refine .inr ⟨_,rfl,.inr rfl,rfl,rfl,by show ByteArray.empty.size ≤ 700;decide,hl,fun x hx _ => ?_,fun h8 => absurd h8 (by show ¬ (1 : Int) = 8;decide),q.1,q.2⟩;obtain ⟨r,hr,rfl⟩ := Bv.1 hx;exact cK (hL r hr).1 (by show (zX h r).kind ≠ 0;rw [(hL r hr).2];decide)
    ·split
     ·exact zN1 g hh (Gq.gc_fd g hh (fun r hr => (hL r hr).1) s) (by rw [e];exact zE1 g hin s) (gc_0 h) (fun h9 => absurd h9 (show ¬ (0 : Int) = 6 by decide)) ho
     ·exact .inl rfl
  ·split
   ·split
    ·exact .inl rfl
    ·exact .inl rfl
   ·split
    ·rename_i hk;have hci := hsu hk;have hin := yJ hci;have hL : ∀ r ∈ aftL (zX h (suC h (zO h v))).order ((zO h v).items.getD 0 vl0).r,inH h r ∧ (zX h r).kind = 9 := fun r hr => ords g hin r (Di hr);have ha := Gq.gc_fd g hh (L := aftL (zX h (suC h (zO h v))).order ((zO h v).items.getD 0 vl0).r) (fun r hr => (hL r hr).1) s;have ra : (fdV h s (suA h (zO h v) s)).k = 6 → yO h (fdV h s (suA h (zO h v) s)).r = true := by
      intro hk6
      cases hf : suA h (zO h v) s with
      | none => rw [hf] at hk6;exact absurd hk6 (show ¬ (0 : Int) = 6 by decide)
      | some r =>
       rw [hf] at hk6;exact Gq.own_rv g (hL r (Cw hf)).1 s hk6
     have hw := vD (Gq.gc_obj g hh v) 1;have rw1 := yR1 g (a := v) 1;unfold upS;repeat' split
     all_goals first | exact .inl rfl | exact zN1 g hh ha ra hw rw1 hci
    ·unfold biS;split
     ·exact .inl rfl
     ·split
      ·refine .inr ⟨_,rfl,zB1 (bi_gc hcl g hs) hv (fun h9 => absurd h9 (show ¬ (7 : Int) = 6 by decide)) rv ?_⟩;unfold uT;rw [Bg (show (biV ((zX h (clA h v)).name ++ dotB ++ s)).k = 7 from rfl)];rfl
      ·exact .inl rfl
theorem put_mem (o : Ob) (s : ByteArray) (w : Vl) : (∀ x ∈ (qE o s w).items,x ∈ o.items ∨ x = w) ∧ (∀ x ∈ (qE o s w).names,x ∈ o.names ∨ x = s) := by
 unfold qE;split
 ·exact ⟨fun x hx => (Ax.1 hx).imp id By.1,fun x hx => (Ax.1 hx).imp id By.1⟩
 ·exact ⟨fun x hx => Dw hx,fun x hx => .inl hx⟩
theorem put_len (o : Ob) (s : ByteArray) (w : Vl) (hl : o.names.length = o.items.length) (hr : ¬ (ixI o.names s < 0 ∧ 200 ≤ o.names.length)) (hn : o.names.length ≤ 200) : (qE o s w).names.length ≤ 200 ∧ (qE o s w).names.length = (qE o s w).items.length := by
 unfold qE;split
 ·show (o.names ++ [s]).length ≤ 200 ∧ (o.names ++ [s]).length = (o.items ++ [w]).length;rw [Ae,Ae,Cj,Cj];omega
 ·show o.names.length ≤ 200 ∧ o.names.length = (o.items.set _ w).length;rw [Bp];omega
theorem i_cls {h : List Ob} (g : Uh h) {v : Vl} (hk : (zO h v).kind = 10) : (zX h (zO h v).cls).kind = 9 := by
 obtain ⟨h6,ho,e⟩ := qD (h := h) (v := v) (by omega);have hin := yJ ho;rw [e] at hk ⊢;by_cases h49 : v.r.toNat < 49
 ·rw [show zX h v.r = bgO v.r.toNat from g.lo_at h49] at hk;have h9 : (bgO v.r.toNat).kind = 9 := rfl;omega
 ·have u := g.hi_at (i := v.r.toNat) (by omega) hin.2;rw [← uB hin] at u;have hl := u.links;rw [qY,Aa (by omega),Aa (by omega),Aa (by omega),Aa (by omega),Aa (by omega),Ab hk] at hl;simp only [Ah,Am] at hl;exact hl.1.1
end Sr
namespace Sr
theorem has_alk {h h' : List Ob} {To Tc : ByteArray → Prop} (A : Alk h h' To Tc) {v : Vl} (hv : qQ h v = true) : qQ h' v = true := by
 have hr := vC hv;unfold qQ at hv ⊢;rw [Ah] at hv ⊢;refine ⟨hv.1,?_⟩;by_cases h6 : v.k = 6
 ·rw [A.isO (hr h6)];simp
 ·rw [Br h6];rfl
theorem ol_in {h : List Ob} (g : Uh h) {n : Int} (hin : inH h n) : (zX h n).order.length ≤ 1000 := by
 by_cases h49 : n.toNat < 49
 ·rw [show zX h n = bgO n.toNat from g.lo_at h49];have h1 := (gD0 h49).1;have h2 : cO (bgO n.toNat) = 120 + 10 * (bgO n.toNat).name.size + ((bgO n.toNat).names.map fun s => s.size + 1).sum + 23 * (bgO n.toNat).refs.length + 23 * (bgO n.toNat).order.length + cVs (bgO n.toNat).keys + cVs (bgO n.toNat).items := rfl;omega
 ·have u := g.hi_at (i := n.toNat) (by omega) hin.2;rw [← uB hin] at u;have := wV0 u.shape u.order;omega
end Sr
namespace Il
structure Hx (h : List Ob) (n C : Nat) : Prop where
 g : Gq.Uh h
 hh : HpIn h
 hc : HpC h
 ln : h.length ≤ n
 co : cH h ≤ C
 c9 : ∀ {m : Int},inH h m → (zX h m).kind = 10 → (zX h (zX h m).cls).kind = 9
 ol : ∀ {m : Int},inH h m → (zX h m).order.length ≤ 1000
 st : ∀ {m : Int},inH h m → (zX h m).kind = 9 → 49 ≤ m → (zX h m).state ≤ 1099511627776 + n
theorem hx_of {h : List Ob} (g : Uh h) (hh : HpIn h) (hp : (qR h).1 = 0) : Hx h 5000 80000000 := by
 have gq := gq_of g hh;refine ⟨gq,hh,uh_hpC g hh,g.hi,uh_cost hp,fun {m} hm hk => ?_,fun {m} hm => Sr.ol_in g hm,fun {m} hm hk h49 => ?_⟩
 ·have e := bI (cK hm (by omega));have := Sr.i_cls g (v := rfV m) (by rw [e];exact hk);rw [e] at this;exact this
 ·have e := bI (cK hm (by omega));have hw : wokS h (rfV m) = true := by
   unfold wokS;rw [e];simp only [Bz,Ah,Am,Bc,At];exact .inr ⟨hk,by show ¬ m < 49;omega⟩
  have := (wr_of g hw).st.2;rw [e] at this;omega
theorem obC_up {N M : Nat} {o : Ob} (h : ObC N o) (hm : N ≤ M) : ObC M o :=
 ⟨h.oin,fun hk => by have := h.st hk;omega,fun hk => by have := h.cls hk;omega,fun n hn => by have := h.refs n hn;omega,fun n hn => by have := h.order n hn;omega,fun v hv => ⟨(h.keys v hv).vin,fun h6 => by have := (h.keys v hv).r h6;omega⟩,fun v hv => ⟨(h.items v hv).vin,fun h6 => by have := (h.items v hv).r h6;omega⟩⟩
theorem Hx.up {h : List Ob} {n n' C C' : Nat} (x : Hx h n C) (hn : n ≤ n') (hC : C ≤ C') : Hx h n' C' :=
 ⟨x.g,x.hh,x.hc,Bq x.ln hn,Bq x.co hC,x.c9,x.ol,fun hm hk h49 => by have := x.st hm hk h49;omega⟩
theorem Hx.nw {h h' : List Ob} {n C : Nat} (x : Hx h n C) (w : Sr.Nw h h') (hn : n < 100000) : Hx h' (n + 1) (C + 100000000) := by
 have hl := x.ln;have q := Sr.nw_ok w x.g x.hh (by omega);rcases w with rfl | ⟨o,rfl,w⟩
 ·exact x.up (by omega) (by omega)
 ·have e : (h ++ [o]).length = h.length + 1 := by simp
  refine ⟨q.1,q.2,fun y hy => ?_,by rw [e];omega,by rw [cH_app];have := x.co;have := w.co;omega,fun {m} hm hk => ?_,fun {m} hm => ?_,fun {m} hm hk h49 => ?_⟩
  ·rw [e];rcases Ax.1 hy with h1 | h1
   ·exact obC_up (x.hc y h1) (by omega)
   ·rw [By.1 h1];exact w.oc
  ·rcases Gq.in_app hm with hi | ⟨e1,_⟩
   ·rw [jM hi] at hk ⊢;rw [jM (x.g.cls hi hk)];exact x.c9 hi hk
   ·rw [e1] at hk;have := w.kd;omega
  ·rcases Gq.in_app hm with hi | ⟨e1,_⟩
   ·rw [jM hi];exact x.ol hi
   ·rw [e1,w.od];exact Ap _
  ·rcases Gq.in_app hm with hi | ⟨e1,_⟩
   ·rw [jM hi] at hk ⊢;have := x.st hi hk h49;omega
   ·rw [e1] at hk;have := w.kd;omega
theorem i9 {h : List Ob} {n C : Nat} (x : Hx h n C) {v : Vl} (hk : (zO h v).kind = 10) : yO h (zO h v).cls = true := by
 obtain ⟨h6,ho,e⟩ := qD (h := h) (v := v) (by omega);rw [e] at hk ⊢;exact cK (x.g.cls (yJ ho) hk) (by rw [x.c9 (yJ ho) hk];decide)
theorem isu {h : List Ob} {n C : Nat} (x : Hx h n C) {v : Vl} (hk : (zO h v).kind = 15) : yO h (suC h (zO h v)) = true := by
 have q := (Gq.su_links x.g hk).2.2.2;unfold suC;rcases q with q | q
 ·rw [Ab q];exact i9 x q
 ·rw [Aa (by omega)];exact (qD (by omega)).2.1
theorem ol_ob {h : List Ob} {n C : Nat} (x : Hx h n C) (v : Vl) : (zO h v).order.length ≤ 1000 := by
 by_cases hk : v.k = 6 ∧ yO h v.r = true
 ·rw [show zO h v = zX h v.r from Ab hk];exact x.ol (yJ hk.2)
 ·rw [show zO h v = ob0 from Aa hk];exact Ap _
theorem qA1 {h : List Ob} {v : Vl} (hi : VlIn v) (hv : qQ h v = true) : Gc h v := yZ1 (tN0 hi hv)
theorem gat_nw {h : List Ob} {n C : Nat} (x : Hx h n C) {v : Vl} {s : ByteArray} (hi : VlIn v) (hv : qQ h v = true) (hs : s.size ≤ 100) : Sr.Nw h (jQ h v s).2 :=
 Sr.gat_nw x.g x.hh (qA1 hi hv) (vC hv) hs (Gq.clA_in x.g (Gq.cf_of x.g hv)) (i9 x) (fun _ => ol_ob x v) (isu x)
theorem xB0 {h : List Ob} {o : Ob} (hl : h.length ≤ 100000) : StC (newS h o).2.length (newS h o).1 := by
 have e : (h ++ [o]).length = h.length + 1 := by simp
 have hr : VlC (h ++ [o]).length (rfV (h.length : Nat)) := ⟨⟨(by decide : (-9223372036854775808 : Int) ≤ 6),(by decide : (6 : Int) ≤ 9223372036854775807),(by show -9223372036854775808 ≤ ((h.length : Nat) : Int);omega),(by show ((h.length : Nat) : Int) ≤ 9223372036854775807;omega),(fun _ h => by cases h),(fun _ h => by cases h),(by decide : 0 ≤ 2000000),(by decide : 0 ≤ 2000000),(by decide : ByteArray.empty.size ≤ 2000000)⟩,fun _ => by show ((h.length : Nat) : Int) < (h ++ [o]).length;omega⟩;exact zU1 hr
section
variable {h : List Ob} (g : Gq.Uh h) (hh : HpIn h)
include g hh
theorem dK0 {a v : Vl} {c : Int} {b : Bool} (ha : Gc h a) (hv : Gc h v) (hc : inH h c) : StC (bdS h a v c b).2.length (bdS h a v c b).1 := by
 have hl := g.hi;have hrc := jF0 hc (by omega);unfold bdS;split
 ·exact xB0 hl
 ·split
  ·exact tX (vD (Gq.gc_obj g hh a) 0).1
  ·split
   ·exact xB0 hl
   ·split
    ·have sp := Gq.gc_sp g hh ha onR;refine kZ0 sp.1 (fun x hx => ?_) (by rw [Ae];show _ + 2 ≤ 1000;omega);rcases Ax.1 hx with h1 | h1
     ·exact sp.2.1 x h1
     ·simp only [Be,Du,or_false] at h1;rcases h1 with rfl | rfl
      ·split
       ·exact hv
       ·exact gc_0 h
      ·exact hrc
    ·exact tX ha.1
theorem wi_st {v a : Vl} {s : ByteArray} {ok : Bool} (hk : (zO h v).kind = 10) (hv : Gc h v) (hw : qQ h v = true) (ha : Gc h a) (hs : s.size ≤ 100) : StC (wiS h v s a ok).2.length (wiS h v s a ok).1 := by
 have hc := Gq.inst_cls g hk;unfold wiS;split
 ·exact Gq.gt_C g hh a hv hs
 ·split
  ·exact dK0 g hh ha hv hc
  ·split
   ·exact tX (pK0 (Gq.gc_obj g hh v) s).1
   ·split
    ·exact dK0 g hh ha hv hc
    ·split
     ·have sp := Gq.gc_sp g hh hv onM;refine kZ0 sp.1 (fun x hx => ?_) (by rw [Ae];show _ + 1 ≤ 1000;omega);rcases Ax.1 hx with h1 | h1
      ·exact sp.2.1 x h1
      ·rw [By.1 h1];refine ⟨tx_C (by omega),?_⟩;have e : cV (txV s) = 60 + 10 * s.size + 8 * 0 + 8 * 0 := rfl;omega
     ·exact Gq.lk_C g hw hs _
theorem cls_st {v : Vl} {s : ByteArray} (hk : (zO h v).kind = 9) (hw : qQ h v = true) (hs : s.size ≤ 100) : StC (clsS h v s).2.length (clsS h v s).1 := by
 obtain ⟨h6,ho,e⟩ := qD (h := h) (v := v) (by omega);have hin := yJ ho;have hok := Gq.cok_of hh g hin;unfold clsS;split
 ·exact tX (tx_C (by have := Gq.obj_sz g v;omega))
 ·split
  ·exact xB0 g.hi
  ·split
   ·exact dK0 g hh (Gq.gc_fd g hh (fun r hr => by rw [e] at hr;exact (hok.2 r hr).1) s) (gc_0 h) hin
   ·exact Gq.lk_C g hw hs _
theorem up_st {v : Vl} {s : ByteArray} (hk : (zO h v).kind = 15) (hs : s.size ≤ 100) : StC (upS h (zO h v) s).2.length (upS h (zO h v) s).1 := by
 have hl := Gq.su_links g hk;have hc := Gq.aft_in hh g hl.2.1 ((zO h v).items.getD 0 vl0).r;have ha := Gq.gc_fd g hh (L := aftL (zX h (suC h (zO h v))).order ((zO h v).items.getD 0 vl0).r) (fun r hr => (hc.2 r hr).1) s;have hw := vD (Gq.gc_obj g hh v) 1;unfold upS;split
 ·refine kY0 ?_;have q1 : suB.size ≤ 100 := by decide
  have q2 : qB.size ≤ 100 := by decide
  rw [Av,Av];omega
 ·split
  ·exact dK0 g hh ha hw hl.2.1
  ·split
   ·exact Gq.gt_C g hh _ hw hs
   ·exact dK0 g hh ha hw hl.2.1
theorem nam_sz {v : Vl} (hv : Gc h v) : (jR h v).1.size ≤ 2000000 := by
 have h1 : ∀ (p : ByteArray × Bool) (w : Vl),Gc h w → p.1.size ≤ 2000000 → (jT h p w).1.size ≤ 2000000 := fun p w hw hp => by
  unfold jT;split
  ·exact hw.1.vin.s
  ·split
   ·have := Gq.obj_sz g w;show (zO h w).name.size ≤ 2000000;omega
   ·split
    ·exact hp
    ·show (⟨#[]⟩ : ByteArray).size ≤ 2000000;decide
 exact h1 _ _ hv (h1 _ _ (vD (Gq.gc_obj g hh v) 0) (by show (⟨#[]⟩ : ByteArray).size ≤ 2000000;decide))
theorem bi_st {v : Vl} {s : ByteArray} (hv : Gc h v) (hw : qQ h v = true) (hs : s.size ≤ 100) : StC (biS h v s).2.length (biS h v s).1 := by
 unfold biS;split
 ·exact tX (tx_C (nam_sz g hh hv))
 ·split
  ·exact xB0 g.hi
  ·exact Gq.lk_C g hw hs _
theorem gat_st {v : Vl} {s : ByteArray} (hv : Gc h v) (hw : qQ h v = true) (hs : s.size ≤ 100) : StC (jQ h v s).2.length (jQ h v s).1 := by
 unfold jQ;split
 ·rename_i hk;have hin := Gq.inst_cls g hk;exact wi_st g hh hk hv hw (Gq.gc_fd g hh (fun r hr => ((Gq.cok_of hh g hin).2 r hr).1) s) hs
 ·split
  ·rename_i hk;exact cls_st g hh hk hw hs
  ·split
   ·split
    ·exact tX (pK0 (Gq.gc_obj g hh v) s).1
    ·exact Gq.lk_C g hw hs _
   ·split
    ·rename_i hk;exact up_st g hh hk hs
    ·exact bi_st g hh hv hw hs
end
theorem kV0 (f : Ob → Nat) : ∀ (h : List Ob) (r : Nat) (o : Ob),r < h.length → ((h.set r o).map f).sum + f (h.getD r ob0) = (h.map f).sum + f o
 | [],_,_,hr => by simp at hr
 | x :: h,0,o,_ => by
  show (((o :: h).map f).sum + f x = _);rw [Bh,Bu,Bh,Bu];omega
 | x :: h,r + 1,o,hr => by
  have := kV0 f h r o (by simpa using hr);show (((x :: h.set r o).map f).sum + f (h.getD r ob0) = _);rw [Bh,Bu,Bh,Bu];omega
theorem bM0 : ∀ (l : List Vl) (r : Nat) (w : Vl),((l.set r w).map cV).sum ≤ (l.map cV).sum + cV w
 | [],_,_ => Ap _
 | x :: l,0,w => by
  show (((w :: l).map cV).sum ≤ _);rw [Bh,Bu,Bh,Bu];omega
 | x :: l,r + 1,w => by
  have := bM0 l r w;show (((x :: l.set r w).map cV).sum ≤ _);rw [Bh,Bu,Bh,Bu];omega
theorem cO_put (o : Ob) (s : ByteArray) (w : Vl) : cO (uU (qE o s w)) ≤ cO o + s.size + 1 + cV w := by
 have e : ∀ p : Ob,cO (uU p) = cO p := fun p => by unfold uU;split <;> rfl
 rw [e];have e2 : cO o = 120 + 10 * o.name.size + (o.names.map fun s => s.size + 1).sum + 23 * o.refs.length + 23 * o.order.length + cVs o.keys + ((o.items.map cV).sum + 1) := rfl;unfold qE;split
 ·have e1 : cO { o with names := o.names ++ [s],items := o.items ++ [w] } = 120 + 10 * o.name.size + ((o.names ++ [s]).map fun s => s.size + 1).sum + 23 * o.refs.length + 23 * o.order.length + cVs o.keys + (((o.items ++ [w]).map cV).sum + 1) := rfl;rw [e1,Ad,Df,Dl,Dm,Ad,Df,Dl,Dm];omega
 ·have e1 : cO { o with items := o.items.set (ixI o.names s).toNat w } = 120 + 10 * o.name.size + (o.names.map fun s => s.size + 1).sum + 23 * o.refs.length + 23 * o.order.length + cVs o.keys + (((o.items.set (ixI o.names s).toNat w).map cV).sum + 1) := rfl;have := bM0 o.items (ixI o.names s).toNat w;rw [e1];omega
end Il
namespace Il
def setC (h : List Ob) (c : Int) (s : ByteArray) (w : Vl) : List Ob := h.set c.toNat (uU (qE (zX h c) s w))
theorem set_case {h : List Ob} {c : Int} {s : ByteArray} {w : Vl} (hi : yO h c = true) (h9 : (zX h c).kind = 9) (h49 : 49 ≤ c) : (setS h (rfV c) s w).2 = h ∨
  ((setS h (rfV c) s w).2 = setC h c s w ∧ ¬ (ixI (zX h c).names s < 0 ∧ 200 ≤ (zX h c).names.length)) := by
 have e := bI hi;have hw : wokS h (rfV c) = true := by
  unfold wokS;rw [e];simp only [Bz,Ah,Am,Bc,At];exact .inr ⟨h9,by show ¬ c < 49;omega⟩
 have n10 : ¬ (zO h (rfV c)).kind = 10 := by rw [e];omega
 unfold setS chS;rw [Aa (by rw [hw];decide),Aa (fun h1 => n10 h1.1),Aa (fun h1 => n10 h1.1),Aa (fun h1 => n10 h1.1)];unfold chF setF;split
 ·exact .inl rfl
 ·split
  ·exact .inl rfl
  ·rename_i h2;rw [e] at h2 ⊢;exact .inr ⟨rfl,h2⟩
theorem set_hx {h : List Ob} {n C : Nat} (x : Hx h n C) (hn : n ≤ 90000) {c : Int} {s : ByteArray} {w : Vl} (hi : yO h c = true) (h9 : (zX h c).kind = 9) (h49 : 49 ≤ c) (hs : s.size ≤ 100) (hw : Gc h w) (hw6 : ¬ w.k = 6)
  (hr : ¬ (ixI (zX h c).names s < 0 ∧ 200 ≤ (zX h c).names.length)) : Hx (setC h c s w) (n + 1) (C + 100000) ∧ Gq.Sm h (setC h c s w) := by
 have g := x.g;have hin := yJ hi;have e := bI hi;have hwk : wokS h (rfV c) = true := by
  unfold wokS;rw [e];simp only [Bz,Ah,Am,Bc,At];exact .inr ⟨h9,by show ¬ c < 49;omega⟩
 have wr := Gq.wr_of g hwk;have hnl := wr.nl;have hpl := Sr.put_len (zO h (rfV c)) s w wr.ni (by rw [e];exact hr) hnl;have hpm := Sr.put_mem (zO h (rfV c)) s w;have hst := x.st hin h9 h49;have hst0 := wr.st.1;rw [← e] at hst;obtain ⟨O1,hO1⟩ : ∃ O1,O1 = uU (qE (zO h (rfV c)) s w) := ⟨_,rfl⟩;have eN : O1.names = (qE (zO h (rfV c)) s w).names := by rw [hO1];exact Sr.bump_n _
 have eI : O1.items = (qE (zO h (rfV c)) s w).items := by rw [hO1];exact Sr.bump_i _
 have eS : 0 ≤ O1.state ∧ O1.state ≤ 1099511627776 + ((n + 1 : Nat) : Int) := by
  rw [hO1];rcases Sr.bump_st (qE (zO h (rfV c)) s w) with e1 | e1
  ·rw [e1,wO0];omega
  ·rw [e1,wO0];omega
 have eO : O1 = { zO h (rfV c) with names := O1.names,items := O1.items,state := O1.state } := by
  rw [hO1];unfold uU qE;repeat' split
  all_goals rfl
 have hgi : ∀ y ∈ O1.items,Gc h y := by
  rw [eI];intro y hy;rcases hpm.1 y hy with h1 | h1
  ·exact Gq.gc_obj g x.hh (rfV c) y h1
  ·rw [h1];exact hw
 have hns : ∀ y ∈ O1.names,y.size ≤ 2000000 := by
  rw [eN];intro y hy;rcases hpm.2 y hy with h1 | h1
  ·rw [e] at h1;exact (x.hh.at c).ns y h1
  ·rw [h1];omega
 have c1 := Sr.chg g x.hh hwk (o := O1) eO hgi
  (by
   rw [eI];intro y hy h6;rcases hpm.1 y hy with h1 | h1
   ·exact Sr.rf_obj g y h1 h6
   ·rw [h1] at h6;exact absurd h6 hw6) hns
  ⟨by rw [eN];exact hpl.1,by rw [eI,← hpl.2];have := hpl.1;omega,by rw [eN,eI];exact hpl.2,eS.1,by have := eS.2;omega⟩
 have hE : setC h c s w = h.set (rfV c).r.toNat O1 := by
  unfold setC;rw [hO1,e];rfl
 rw [hE];have S := c1.2.2;have hat : ∀ {m : Int},inH h m → zX (h.set (rfV c).r.toNat O1) m = if m = c then O1 else zX h m := fun hm => Gq.at_set (n := c) hin hm;have oc0 := HpC.at x.hc hin.2;have oc : ObC h.length (zO h (rfV c)) := by rw [e];exact oc0
 have oi := oc.oin;have hoc : ObC h.length O1 := by
  rw [eO];exact ⟨⟨oi.kd,oi.cl,oi.co,(by show -9223372036854775808 ≤ O1.state ∧ O1.state ≤ 9223372036854775807;omega),oi.nm,oi.rl,oi.ol,(by show O1.names.length ≤ 2000000;rw [eN];have := hpl.1;omega),(by show O1.items.length ≤ 2000000;rw [eI,← hpl.2];have := hpl.1;omega),oi.kl,hns,fun y hy => (hgi y hy).1.vin,oi.kv⟩,fun h18 => by have h18 : (zO h (rfV c)).kind = 18 := h18;rw [e] at h18;omega,oc.cls,oc.refs,oc.order,oc.keys,fun y hy => (hgi y hy).1⟩
 refine ⟨⟨c1.1,c1.2.1,hpC_set x.hc hoc,by rw [Bp];have := x.ln;omega,?_,fun {m} hm hk => ?_,fun {m} hm => ?_,fun {m} hm hk hm49 => ?_⟩,S⟩
 ·have h1 := kV0 cO h c.toNat O1 hin.2;have h2 := cO_put (zX h c) s w;have h3 := hw.2;have hco := x.co;rw [dH0] at hco ⊢;rw [hO1,e] at h1;have h4 : ((h.set (rfV c).r.toNat O1).map cO).sum = ((h.set c.toNat (uU (qE (zX h c) s w))).map cO).sum := by rw [hO1,e];rfl
  rw [h4];have h5 : cO (h.getD c.toNat ob0) = cO (zX h c) := rfl;omega
 ·have hm := S.inH.1 hm;rw [S.kind hm] at hk;rw [S.cls hm,S.kind (g.cls hm hk)];exact x.c9 hm hk
 ·have hm := S.inH.1 hm;rw [S.ord hm];exact x.ol hm
 ·have hm := S.inH.1 hm;rw [S.kind hm] at hk;rw [hat hm];split
  ·exact eS.2
  ·have := x.st hm hk hm49;omega
structure Sx where
 cls : Int
 ver : List Int
 fnd : Bool
 val : Vl
 mis : Int
def siD (x : Sx) : List D := .v (.int .i64 x.cls) :: isD x.ver :: .v (.bool x.fnd) :: (vlD x.val ++ [.v (.int .i64 x.mis)])
def smX (a b : Sx) : Bool := (((decide (a.cls = b.cls) && decide (a.ver = b.ver)) && decide (a.fnd = b.fnd)) && decide (a.val = b.val)) && decide (a.mis = b.mis)
theorem mD0 {a b : Sx} : smX a b = true ↔ a = b := by
 unfold smX;simp only [Ah,Am];constructor
 ·rintro ⟨⟨⟨⟨h1,h2⟩,h3⟩,h4⟩,h5⟩
  cases a;cases b
  simp_all
 ·rintro rfl;exact ⟨⟨⟨⟨rfl,rfl⟩,rfl⟩,rfl⟩,rfl⟩
instance : DecidableEq Sx := fun _ _ => decidable_of_iff _ mD0
theorem smX_eq (a b : Sx) : smX a b = decide (a = b) := by
 rw [Bool.eq_iff_iff,Am];exact mD0
def verS (h : List Ob) (c : Int) : List Int := (zX h c).order.map fun r => (zX h r).state
def fitS (h : List Ob) (x : Sx) (v : Vl) : Bool := ((decide ((zO h v).kind = 10) && decide ((zO h v).cls = x.cls)) && decide (0 < x.ver.length)) && decide (x.ver = verS h (zO h v).cls)
def newX (h : List Ob) (x : Sx) (v : Vl) (s : ByteArray) : Sx := ⟨(zO h v).cls,verS h (zO h v).cls,(fdO h (zX h (zO h v).cls).order s).isSome,fdV h s (fdO h (zX h (zO h v).cls).order s),x.mis + 1⟩
def nxX (h : List Ob) (x : Sx) (v : Vl) (s : ByteArray) : Sx := if fitS h x v = false ∧ (zO h v).kind = 10 ∧ x.mis < 8 then newX h x v s else x
def atrS (h : List Ob) (x : Sx) (v : Vl) (s : ByteArray) : St × List Ob := if fitS h x v = true then wiS h v s x.val x.fnd else jQ h v s
structure Ix (h : List Ob) (s : ByteArray) (x : Sx) : Prop where
 ok : x.ver = [] ∨ (inH h x.cls ∧ (∀ (k : Nat) (r : Int),(zX h x.cls).order[k]? = some r → ∃ n,x.ver[k]? = some n ∧ n ≤ (zX h r).state) ∧
  (x.ver = verS h x.cls → (fdO h (zX h x.cls).order s).isSome = x.fnd ∧ fdV h s (fdO h (zX h x.cls).order s) = x.val))
 vi : VlIn x.val
 vr : ∀ n ∈ x.ver,-9223372036854775808 ≤ n ∧ n ≤ 9223372036854775807
 vl : x.ver.length ≤ 1000
 mi : 0 ≤ x.mis ∧ x.mis ≤ 100
 cr : -9223372036854775808 ≤ x.cls ∧ x.cls ≤ 9223372036854775807
theorem atr_eq {h : List Ob} {s : ByteArray} {x : Sx} (I : Ix h s x) (v : Vl) : atrS h x v s = jQ h v s := by
 unfold atrS;split
 ·rename_i hf;unfold fitS at hf;simp only [Ah,Am] at hf;rcases I.ok with h0 | h0
  ·rw [h0] at hf;exact absurd hf.1.2 (by decide)
  ·have q := h0.2.2 (by rw [← hf.1.1.2];exact hf.2);unfold jQ;rw [Ab hf.1.1.1,hf.1.1.2,q.1,q.2]
 ·rfl
theorem fit_val {h : List Ob} {s : ByteArray} {x : Sx} (I : Ix h s x) {v : Vl} (hf : fitS h x v = true) : (zO h v).kind = 10 ∧ (fdO h (zX h (zO h v).cls).order s).isSome = x.fnd ∧ fdV h s (fdO h (zX h (zO h v).cls).order s) = x.val := by
 unfold fitS at hf;simp only [Ah,Am] at hf;rcases I.ok with h0 | h0
 ·rw [h0] at hf;exact absurd hf.1.2 (by decide)
 ·have q := h0.2.2 (by rw [← hf.1.1.2];exact hf.2);rw [← hf.1.1.2] at q;exact ⟨hf.1.1.1,q⟩
theorem ver_in {h : List Ob} {n C : Nat} (x : Hx h n C) {c : Int} (hc : inH h c) : (∀ m ∈ verS h c,-9223372036854775808 ≤ m ∧ m ≤ 9223372036854775807) ∧ (verS h c).length ≤ 1000 := by
 refine ⟨fun m hm => ?_,by unfold verS;rw [Ao];exact x.ol hc⟩;obtain ⟨r,_,rfl⟩ := Bv.1 hm;exact (x.hh.at r).st
theorem ix_next {h : List Ob} {n C : Nat} (X : Hx h n C) {s : ByteArray} {x : Sx} (I : Ix h s x) {v : Vl} : Ix h s (nxX h x v s) := by
 unfold nxX;split
 ·rename_i hk;have hc := Gq.inst_cls X.g hk.2.1;have hv := ver_in X hc;have ho := (qD (h := h) (v := v) (by omega));have hck := (X.hh.at v.r).cl;rw [← ho.2.2] at hck;have hm := I.mi;refine ⟨.inr ⟨hc,fun k r hr => ⟨(zX h r).state,?_,Int.le_refl _⟩,fun _ => ⟨rfl,rfl⟩⟩,?_,hv.1,hv.2,⟨by show 0 ≤ x.mis + 1;omega,by show x.mis + 1 ≤ 100;omega⟩,hck⟩
  ·show ((zX h (zO h v).cls).order.map fun r => (zX h r).state)[k]? = _;have hr : (zX h (zO h v).cls).order[k]? = some r := hr;rw [Bm,hr];rfl
  ·exact (Gq.gc_fd X.g X.hh (fun r hr => (ords X.g hc r hr).1) s).1.vin
 ·exact I
theorem ix_nw {h h' : List Ob} (g : Gq.Uh h) (w : Sr.Nw h h') {s : ByteArray} {x : Sx} (I : Ix h s x) : Ix h' s x := by
 have A : Alk h h' (fun _ => True) (fun _ => True) := Sr.nw_alk w;refine ⟨I.ok.imp id fun q => ?_,I.vi,I.vr,I.vl,I.mi,I.cr⟩;have hat : ∀ {m : Int},inH h m → zX h' m = zX h m := fun {m} hm => by
  rcases w with rfl | ⟨o,rfl,_⟩
  ·rfl
  ·exact jM hm
 have hL := ords g q.1;have hv : verS h' x.cls = verS h x.cls := by
  unfold verS;rw [hat q.1];exact List.map_congr_left fun r hr => by rw [hat (hL r hr).1]
 refine ⟨Sr.nw_in w q.1,fun k r hr => ?_,fun hE => ?_⟩
 ·rw [hat q.1] at hr;rw [hat (hL r (Bb hr)).1];exact q.2.1 k r hr
 ·rw [hv] at hE;rw [hat q.1,A.fO hL trivial,A.fV hL trivial];exact q.2.2 hE
theorem ix_set {h : List Ob} (g : Gq.Uh h) {c : Int} {s : ByteArray} {w : Vl} (hin : inH h c) (h9 : (zX h c).kind = 9) (S : Gq.Sm h (setC h c s w)) {x : Sx} (I : Ix h s x) : Ix (setC h c s w) s x := by
 have hat : ∀ {m : Int},inH h m → zX (setC h c s w) m = if m = c then uU (qE (zX h c) s w) else zX h m := fun hm => Gq.at_set hin hm;have hst : (uU (qE (zX h c) s w)).state = (zX h c).state + 1 := by
  have hk : (qE (zX h c) s w).kind = 9 := by unfold qE;split <;> exact h9
  unfold uU;rw [Ab hk];show (qE (zX h c) s w).state + 1 = _;rw [wO0]
 refine ⟨I.ok.imp id fun q => ?_,I.vi,I.vr,I.vl,I.mi,I.cr⟩;have hL := ords g q.1;have hle : ∀ {r : Int},inH h r → (zX h r).state ≤ (zX (setC h c s w) r).state := fun {r} hr => by
  rw [hat hr];split
  ·rename_i e;rw [hst,e];omega
  ·exact Int.le_refl _
 refine ⟨S.inH.2 q.1,fun k r hr => ?_,fun hE => ?_⟩
 ·rw [S.ord q.1] at hr;obtain ⟨m,hm,hm2⟩ := q.2.1 k r hr;exact ⟨m,hm,Int.le_trans hm2 (hle (hL r (Bb hr)).1)⟩
 ·have hno : ∀ r ∈ (zX h x.cls).order,zX (setC h c s w) r = zX h r := fun r hr => by
   obtain ⟨k,hk⟩ := Cz hr;obtain ⟨m,hm,hm2⟩ := q.2.1 k r hk;have hE2 : x.ver[k]? = some (zX (setC h c s w) r).state := by
    rw [hE];unfold verS;rw [S.ord q.1,Bm,hk];rfl
   rw [hm] at hE2;have hE3 : m = (zX (setC h c s w) r).state := Option.some.inj hE2;rw [hat (hL r hr).1];split
   ·rename_i e;rw [hat (hL r hr).1,Ab e,hst] at hE3;rw [e] at hm2;omega
   ·rfl
  have hv : verS (setC h c s w) x.cls = verS h x.cls := by
   unfold verS;rw [S.ord q.1];exact List.map_congr_left fun r hr => by rw [hno r hr]
  rw [hv] at hE;have q3 := q.2.2 hE;have hfo : ∀ L : List Int,(∀ r ∈ L,zX (setC h c s w) r = zX h r) → fdO (setC h c s w) L s = fdO h L s := by
   intro L hL9;induction L with
   | nil => rfl
   | cons r L ih =>
    have h2 := ih fun y hy => hL9 y (Az _ hy);unfold fdO at h2 ⊢;rw [List.find?_cons,List.find?_cons,hL9 r Ay,h2]
  have hfv : fdV (setC h c s w) s (fdO h (zX h x.cls).order s) = fdV h s (fdO h (zX h x.cls).order s) := by
   cases hf : fdO h (zX h x.cls).order s with
   | none => rfl
   | some r =>
    show ownV (zX (setC h c s w) r) s = ownV (zX h r) s;rw [hno r (Cw hf)]
  rw [S.ord q.1,hfo _ hno,hfv];exact q3
theorem has_nw {h h' : List Ob} (w : Sr.Nw h h') {u : Vl} (hu : qQ h u = true) : qQ h' u = true :=
 Sr.has_alk (Sr.nw_alk w : Alk h h' (fun _ => True) (fun _ => True)) hu
theorem has_sm {h h' : List Ob} (S : Gq.Sm h h') {u : Vl} (hu : qQ h u = true) : qQ h' u = true := by
 unfold qQ at hu ⊢;rw [S.isO];exact hu
theorem has_rf {h : List Ob} {c : Int} (hi : yO h c = true) : qQ h (rfV c) = true := by
 have h1 : jJ (rfV c) = true := by
  unfold jJ;have e : (rfV c).k = 6 := rfl;rw [Aa (by rw [e];decide),Aa (by rw [e];decide),Aa (by rw [e];decide),Aa (by rw [e];decide),Aa (by rw [e];decide),Aa (by rw [e];decide),Aa (by rw [e];decide),Ab e];show ((zI false [] && zI false []) && emS ByteArray.empty) = true;decide +kernel
 unfold qQ;rw [h1,show (rfV c).r = c from rfl,hi];simp
def coI (k : Nat) : Nat := 80000000 + 100100000 * k
theorem coI_succ (k : Nat) : coI k + 100000000 + 100000 = coI (k + 1) := by unfold coI;omega
theorem coI_le {k : Nat} (hk : k ≤ 4) : coI k ≤ 480400000 := by unfold coI;omega
structure Rd (h : List Ob) (n C : Nat) (s : ByteArray) (x : Sx) (y : Vl) : Prop where
 hx : Hx (jQ h y s).2 (n + 1) (C + 100000000)
 ix : Ix (jQ h y s).2 s (nxX h x y s)
 has : ∀ {u : Vl},qQ h u = true → qQ (jQ h y s).2 u = true
 len : h.length ≤ (jQ h y s).2.length
 st : StC (jQ h y s).2.length (jQ h y s).1
theorem rd_ok {h : List Ob} {n C : Nat} (X : Hx h n C) (hn : n ≤ 90000) {s : ByteArray} {x : Sx} (I : Ix h s x) {y : Vl} (hi : VlIn y) (hy : qQ h y = true) (hs : s.size ≤ 100) : Rd h n C s x y := by
 have w := gat_nw X hi hy hs;refine ⟨X.nw w (by omega),ix_nw X.g w (ix_next X I),fun hu => has_nw w hu,?_,gat_st X.g X.hh (qA1 hi hy) hy hs⟩;rcases w with e | ⟨o,e,_⟩
 ·rw [e];exact Ar _
 ·rw [e,Ae];omega
structure Ws (h : List Ob) (n C : Nat) (s : ByteArray) (x : Sx) (c : Int) (u : Vl) : Prop where
 hx : Hx (setS h (rfV c) s u).2 (n + 1) (C + 100000)
 ix : Ix (setS h (rfV c) s u).2 s x
 has : ∀ {y : Vl},qQ h y = true → qQ (setS h (rfV c) s u).2 y = true
theorem ws_ok {h : List Ob} {n C : Nat} (X : Hx h n C) (hn : n ≤ 90000) {s : ByteArray} {x : Sx} (I : Ix h s x) {w u : Vl} (hk : (zO h w).kind = 10) (h49 : 49 ≤ (zO h w).cls) (hs : s.size ≤ 100) (hu : Gc h u) (hu6 : ¬ u.k = 6) : Ws h n C s x (zO h w).cls u := by
 have hi := i9 X hk;obtain ⟨h6,ho,e⟩ := qD (h := h) (v := w) (by omega);have h9 : (zX h (zO h w).cls).kind = 9 := by
  have := X.c9 (yJ ho) (by rw [← e];exact hk);rw [e];exact this
 rcases set_case (s := s) (w := u) hi h9 h49 with e1 | ⟨e1,hr⟩
 ·exact ⟨by rw [e1];exact X.up (by omega) (by omega),by rw [e1];exact I,fun hy => by rw [e1];exact hy⟩
 ·have q := set_hx X hn hi h9 h49 hs hu hu6 hr;exact ⟨by rw [e1];exact q.1,by rw [e1];exact ix_set X.g (yJ hi) h9 q.2 I,fun hy => by rw [e1];exact has_sm q.2 hy⟩
theorem Gc.int {h h' : List Ob} {u : Vl} (g : Gc h u) (hk : ¬ u.k = 6) : Gc h' u := ⟨⟨g.1.vin,fun h6 => absurd h6 hk⟩,g.2⟩
structure Lp (v w : Vl) (s : ByteArray) where
 k : Nat
 le : k ≤ 4
 H : List Ob
 S : Sx
 hx : Hx H (5000 + 2 * k) (coI k)
 ix : Ix H s S
 hv : qQ H v = true
 hw : qQ H w = true
end Il
end Go.Proofs.YtifgelimmddkpaaGreatDoor
