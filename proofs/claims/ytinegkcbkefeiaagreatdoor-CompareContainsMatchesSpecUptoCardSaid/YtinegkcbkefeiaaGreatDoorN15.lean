/- Part 15 of the proof. -/
import Derived.Test.YtinegkcbkefeiaaGreatDoorN14
namespace Go.Proofs.YtinegkcbkefeiaaGreatDoor
open Go.RowKit
theorem PStp.ofBelow {w w' : World} {s : Sb} (hlt : ∀ B o,s B o -> B < w.heap.size) (h : Below w.heap.size w w') : PStp w s w' s :=
 ⟨⟨fun _ _ h => h,(fun b o hs => World.cell?_of_block (h.block b (hlt b o hs))),fun _ _ h => h⟩,fun B o hs => Bl (hlt B o hs) h.size,h.os,h.tape,h.output,h.size,h.block,fun _ _ h => .inl h,fun _ _ h => .inl h⟩
theorem mA0 {P : Program} {f : FuncId} {args : List D} {x : Value} (hb : Bod P f) (h : ∀ (w : World) (s : Sb) (vs : List Value),Glb w s -> AllV w s (D.pvs args) vs -> Calls P f vs.toArray w fun e w' => e = .returned x /\ Below w.heap.size w w') : Fn P f args (.v x) :=
 ⟨hb,fun w s vs hlt hg hv => (h w s vs hg hv).mono fun _ _ ⟨h1,h2⟩ => ⟨s,x,h1,rfl,PStp.ofBelow hlt h2⟩⟩
theorem bR0 {P : Program} {f : FuncId} {args : List D} {l : List ByteArray} {t : TypeId} (hb : Bod P f) (hm : l.length <= 9223372036854775807) (h : ∀ (w : World) (s : Sb) (vs : List Value),Glb w s -> AllV w s (D.pvs args) vs -> Calls P f vs.toArray w fun e w' => e = .returned (.slice (some ⟨w.heap.size,0,none⟩) l.length l.length) /\ w' = w.alloc (.cells (l.map Value.string).toArray t)) : Fn P f args (ssD l) := by
 refine ⟨hb,fun w s vs hlt hg hv => (h w s vs hg hv).mono ?_⟩;rintro e w' ⟨rfl,rfl⟩;have hst := Stp.newStable (w := w) (s := s) (g := ⟨fun _ => none,fun _ _ => none⟩) hlt (.cells (l.map Value.string).toArray t);refine ⟨s.add fun B _ => B = w.heap.size,_,rfl,⟨_,_,by simp,by simp,hm,?_,fun i row hr => ⟨w.heap.size,0,rfl,fun j d hd => ?_⟩⟩,hst.ex,hst.lt,rfl,rfl,rfl,by simp,fun N hN => Below.heap_alloc w _ N hN,fun B o hs => hs.imp id fun e => by omega,fun B o hs => hs.imp id fun e => by omega⟩
 ·intro row hr;obtain ⟨p,_,rfl⟩ := Cs.1 hr;rfl
 ·rw [Cc] at hr
  cases hp : l[i]? with
  | none => rw [hp] at hr;simp at hr
  | some p =>
   rw [hp] at hr;simp at hr;subst hr;have hj : j = 0 /\ d = PV.lit (.string p) := by
    match j,hd with
    | 0,hd => simp [sD,D.pvs,D.pv] at hd;exact ⟨rfl,hd.symm⟩
    | j + 1,hd => simp [sD,D.pvs] at hd
   obtain ⟨rfl,rfl⟩ := hj;refine ⟨.string p,?_,.inr rfl,rfl,rfl⟩;rw [cell_of_row _ w.heap.size _ _ t (0,0) (heap_alloc_new w _)];simp [hp]
theorem pB0 {w : World} {s : Sb} {x : Value} {vs : List Value} (h : AllV w s (D.pvs [.v x]) vs) : vs = [x] := by
 match vs,h with
 | [v],h => have : v = x := h.1;rw [this]
 | [],h => exact h.elim
 | _ :: _ :: _,h => exact h.2.elim
theorem jU0 {w : World} {s : Sb} {x y : Value} {vs : List Value} (h : AllV w s (D.pvs [.v x,.v y]) vs) : vs = [x,y] := by
 match vs,h with
 | [v,u],h =>
  have h1 : v = x := h.1;have h2 : u = y := h.2.1;rw [h1,h2]
 | [],h => exact h.elim
 | [_],h => exact h.2.elim
 | _ :: _ :: _ :: _,h => exact h.2.2.elim
theorem ValidString_ok (p : ByteArray) (hp : p.size <= 9223372036854775807) : Fx 153 [.v (.string p)] (.v (.bool (Lib.validD p.data.toList))) := by
 refine mA0 ⟨_,Tryz.func153,rfl,rfl⟩ fun w s vs hg hv => ?_;rw [pB0 hv];obtain ⟨G,h1,h2,_⟩ := hg;exact Any.utf8_ValidString Tryz.laysValid p w hp ⟨fun c hc => (h2 _ _ _ (h1.first c hc)).1,fun i hi => ⟨(h2 _ _ _ (h1.accept i hi).1).1,(h2 _ _ _ (h1.accept i hi).2).1⟩⟩
theorem gR (p q : ByteArray) (hp : p.size < 4294967281) : Fx 59 [.v (.string p),.v (.string q)] (.v (.bool (Lib.contains p.data.toList q.data.toList))) := by
 refine mA0 ⟨_,Tryz.func59,rfl,rfl⟩ fun w s vs hg hv => ?_;rw [jU0 hv];obtain ⟨G,h1,h2,_⟩ := hg;obtain ⟨m,hm⟩ := h1.maxLen;exact (Any.strings_Contains Tryz.laysContains p q m w hp (h2 _ _ _ hm).1).mono fun e w' ⟨h3,h4⟩ => ⟨h3,by rw [h4];exact Below.refl _ _⟩
def pC (p sep : ByteArray) : List ByteArray := Lib.splitB sep 0 (Lib.countB p sep) p
theorem dQ {p sep : ByteArray} (h : 1 <= sep.size) : (pC p sep).length = Lib.countB p sep + 1 := Lib.splitB_all sep h 0 _ p rfl
theorem pE0 (p sep : ByteArray) (hp : p.size < 4294967281) (h1 : 1 <= sep.size) : Fx 196 [.v (.string p),.v (.string sep)] (ssD (pC p sep)) := by
 have hle := Lib.countB_le sep h1 p.size p (Ao _);refine bR0 (t := 9) ⟨_,Tryz.func196,rfl,rfl⟩ (by rw [dQ h1];omega) fun w s vs hg hv => ?_;rw [jU0 hv,dQ h1];obtain ⟨G,g1,g2,_⟩ := hg;obtain ⟨m,hm⟩ := g1.maxLen;exact Any.strings_Split Tryz.laysSplit kr p sep m w hp (g2 _ _ _ hm).1 h1
variable {md me : Bool}
structure VlIn (x : Vl) : Prop where
 k1 : -9223372036854775808 <= x.k
 k2 : x.k <= 9223372036854775807
 r1 : -9223372036854775808 <= x.r
 r2 : x.r <= 9223372036854775807
 nl : Lg x.nl
 dl : Lg x.dl
 nn : x.nl.length <= 2000000
 dn : x.dl.length <= 2000000
 s : x.s.size <= 2000000
theorem xI {α : Type} {β : Type 1} {l : List α} {f : α -> β} (h : l.length <= 2000000) : (l.map f).length <= 1073741824 := by rw [Bb];omega
structure Up (n : Nat) (p : Nat -> Bool) where
 k : Nat
 le : k <= n
 all : ∀ j,j < k -> p j = true
def Up.next {n : Nat} {p : Nat -> Bool} (x : Up n p) (h1 : x.k < n) (h2 : p x.k = true) : Up n p := ⟨x.k + 1,by omega,fun j hj => by
 rcases Nat.lt_succ_iff_lt_or_eq.1 hj with h | rfl
 ·exact x.all j h
 ·exact h2⟩
theorem Up.yes {n : Nat} {p : Nat -> Bool} (x : Up n p) (h1 : ¬ x.k < n) : (List.range n).all p = true := by
 rw [Bf];intro j hj;exact x.all j (by have := Cu.1 hj;omega)
theorem Up.no {n k : Nat} {p : Nat -> Bool} (h1 : k < n) (h2 : p k = false) : (List.range n).all p = false := by
 rw [<- Bool.not_eq_true,Bf];intro h;rw [h k (Cu.2 h1)] at h2;cases h2
def lttI (b : Int) : Bool := (decide (b = 95) || (decide (97 <= b) && decide (b <= 122))) || (decide (65 <= b) && decide (b <= 90))
def nmP (s : ByteArray) (i : Nat) : Bool := !(!lttI (bAt s i) && ((decide ((i : Int) = 0) || decide ((bAt s i : Int) < 48)) || decide (57 < (bAt s i : Int))))
def kI (s : ByteArray) : Bool := !(decide ((s.size : Int) < 1) || decide (24 < (s.size : Int))) && (List.range s.size).all (nmP s)
def dotS (s : ByteArray) : Bool := (pC s ⟨#[46]⟩).all kI && decide ((s.size : Int) <= 60)
def emS (s : ByteArray) : Bool := decide (s = ⟨#[]⟩)
def zI (b : Bool) (l : List Nat) : Bool := smI b l false []
def oneS (l : List Nat) : Bool := decide ((l.length : Int) = 1) && decide (((l.getD 0 0 : Nat) : Int) = 1)
def shr1 (r : Int) : Int := r.fdiv (2 ^ (min (Int.toNat 1) (IntKind.i64).bits))
def qZ (v : Vl) : Bool :=
 if v.k = 0 \/ v.k = 8 then ((zI v.nn v.nl && zI v.dn v.dl) && emS v.s) && decide (v.r = 0)
 else if v.k = 1 then ((zI v.nn v.nl && zI v.dn v.dl) && emS v.s) && decide (shr1 v.r = 0)
 else if v.k = 2 then ((uV v.nn v.nl && zI v.dn v.dl) && emS v.s) && decide (v.r = 0)
 else if v.k = 3 then ((ratS v.nn v.nl v.dn v.dl && !oneS v.dl) && emS v.s) && decide (v.r = 0)
 else if v.k = 4 then (((zI v.nn v.nl && zI v.dn v.dl) && decide (v.r = 0)) && Lib.validD v.s.data.toList) && decide ((v.s.size : Int) <= 4000)
 else if v.k = 5 then ((zI v.nn v.nl && zI v.dn v.dl) && decide (v.r = 0)) && decide ((v.s.size : Int) <= 4000)
 else if v.k = 7 then ((zI v.nn v.nl && zI v.dn v.dl) && decide (v.r = 0)) && dotS v.s
 else if v.k = 6 then (zI v.nn v.nl && zI v.dn v.dl) && emS v.s
 else false
def hasS (h : List Ob) (v : Vl) : Bool := qZ v && (!decide (v.k = 6) || yY h v.r)
def usesB : ByteArray := ⟨#[32,42,32,42,32,107,58,32,107,48,32,51,32,49,32,110,99,114,100,115,42,32,50,32,110,114,97,115,61,32,99,97,61,32,110,97,61,32,51,32,49,32,49,32,50,32,115,50,32,110,100,115,42,32,115,48,32,115,50,32,49]⟩
def usesL : List ByteArray := pC usesB ⟨#[32]⟩
theorem usesL_len : usesL.length = 21 := by decide +kernel
def uU (k : Int) : ByteArray := usesL.getD k.toNat ByteArray.empty
theorem pX0 {k : Int} (h : 0 <= k /\ k < 21) : 0 <= k /\ k.toNat < usesL.length := by rw [usesL_len];omega
theorem zO0 (l : List Vl) (hl : l.length <= 2000000) : FnO Tryz.prog 86 [vsD l] 29 7 (l.map vlD) := by
 refine bT0 Tryz.func86 rfl rfl rfl rfl rfl rfl ?_;intros;refine zB (zE zL [5] 100 rfl ?_);repeat (first | refine zH ?_ | refine zU (by exact xI hl) ?_)
 refine zC (zA (zB (zB ?_)));refine kO Tryz.underlying31 rfl rfl rfl fun c hc => ?_;refine zA (zT rfl (fun c1 => ?_) (fun c1 => ?_))
 ·
  refine zB (zE zL [5] 300 rfl ?_);repeat (first | refine zH ?_ | refine zU (by exact xI hl) ?_)
  refine zC (zA (zK (zN ?_)));exact FinO.nil rfl (by rw [hc c1];rfl)
 ·
  refine zM (zA ?_);refine zB (zE zL [5] 400 rfl ?_);repeat (first | refine zH ?_ | refine zU (by first | rfl | exact xI hl | (rw [Bc];have := xI (f := vlD) hl;omega) | (have := xI (f := vlD) hl;simp at this ⊢;omega)) ?_)
  refine zC (zA (zK ?_));exact FinO.ret rfl rfl rfl rfl
theorem zI0 (s : ByteArray) : Fx 141 [.v (.string s)] (.v (.bool (kI s))) := by
 refine yD zL Tryz.func141 rfl rfl rfl rfl rfl rfl ?_;intros;refine zJ 100 ?_;refine zB (zJ 200 ?_);refine zT rfl (fun c1 => ?_) (fun c1 => ?_)
 ·
  refine zJ 300 ?_;refine zK (zN ?_);exact u4 rfl (u7 (by rw [kI,c1];rfl))
 ·simp only [Di,Av] at c1;refine zM (zA (zB (zJ 400 ?_)));refine zR ?_;refine yC (ι := Up s.size (nmP s)) [0] [] 450 (fun x => [(3,.v (.int .i64 x.k))]) (fun _ => []) (fun x => s.size - x.k) ⟨0,Ap _,fun j hj => by omega⟩ ?_;refine ⟨⟨yM,yH,rfl,rfl⟩,fun x => ?_⟩;have hk := x.le;refine zB (zJ 500 ?_);refine zW (fun c4 => ?_) (fun c4 => ?_)
  ·
   refine zM (zA (zB (zR (zJ 700 ?_))));refine zJ 800 ?_;refine zJ 900 ?_;refine zT rfl (fun c8 => ?_) (fun c8 => ?_)
   ·
    refine zJ 1000 ?_;refine zK (zQ (zN (yL (zQ (zN ?_)))));exact u4 rfl (u7 (by rw [kI,Up.no (p := nmP s) c4 (congrArg Bool.not c8),Bool.and_false]))
   ·
    refine zM (zP (zA (yN zL [] 1000 ?_)));exact zS (x.next c4 (by show (!(_)) = true;exact congrArg Bool.not c8)) ⟨yM,yH,rfl,rfl⟩ (by show s.size - (x.k + 1) < s.size - x.k;omega)
  ·
   refine yE (yA (yB (zX (zA (zJ 1100 ?_)))));refine zK ?_;exact u4 rfl (u7 (by rw [kI,x.yes c4,Bz c1.1,Bz c1.2];rfl))
theorem zN0 (s : ByteArray) (hs : s.size <= 2000000) : Fx 142 [.v (.string s)] (.v (.bool (dotS s))) := by
 refine yD zL Tryz.func142 rfl rfl rfl rfl rfl rfl ?_;intros;refine zJ 100 ?_;refine zB ?_;refine zB (zE zL [] 200 rfl ?_);refine zF ?_;refine zO _ (pE0 _ _ om de) rfl ?_;refine zf ?_;refine zA (zR ?_);refine yC (ι := Al (pC s ⟨#[46]⟩) kI) [0,6,7] [] 250 (fun x => [(8,.v (.int .i64 x.k))]) (fun _ => []) (fun x => (pC s ⟨#[46]⟩).length - x.k) ⟨0,Ap _,fun j x hj => by omega⟩ ?_;refine ⟨⟨yM,yH,rfl,rfl⟩,fun x => ?_⟩;have hk := x.le;have hl : (pC s ⟨#[46]⟩).length <= 2000001 := by rw [dQ (by decide)];have := Lib.countB_le ⟨#[46]⟩ de s.size s (Ao _);omega
 refine zJ 300 ?_;refine zB (zW (fun c2 => ?_) (fun c2 => ?_))
 ·
  refine zM (zA (zB (zR (zJ 400 ?_))));refine zB (zE zL [] 500 rfl ?_);refine zF ?_;refine zO _ (zI0 _) rfl ?_;refine zF ?_;refine zC (zA (zW (fun c4 => ?_) (fun c4 => ?_)))
  ·
   refine zJ 600 ?_;refine zK (zQ (zN (yL (zQ (zN ?_)))));exact u4 rfl (u7 (by rw [dotS,Al.no (e := ByteArray.empty) c2 c4];rfl))
  ·
   refine zM (zP (zA (yN zL [] 700 ?_)));exact zS (x.next (e := ByteArray.empty) c2 c4) ⟨yM,yH,rfl,rfl⟩ (by show (pC s ⟨#[46]⟩).length - (x.k + 1) < (pC s ⟨#[46]⟩).length - x.k;omega)
 ·
  refine yE (yA (yB (zX (zA (zJ 800 ?_)))));refine zK ?_;exact u4 rfl (u7 (by rw [dotS,x.yes c2];rfl))
theorem xQ (v : Vl) (hin : VlIn v) : Fx 87 [.agg (vlD v)] (.v (.bool (qZ v))) := by
 have hsz := hin.s;refine yD zL Tryz.func87 rfl rfl rfl rfl rfl rfl ?_;intros;refine zJ 100 ?_;refine zB (zZ zL [] [[],[0],[],[0,1,2],[],[4],[],(rgN 7),(rgN 8),(rgN 9)] 200 yQ kr rfl ?_);refine zF ?_;refine zO _ ((mF v.nn false v.nl []).args ⟨u6 _,u20 ⟨u6 _,u12 rfl,trivial⟩,trivial⟩) rfl ?_;refine zF ?_;refine zO _ ((mF v.dn false v.dl []).args ⟨u6 _,u20 ⟨u6 _,u12 rfl,trivial⟩,trivial⟩) rfl ?_;refine zF ?_;refine zC (zA (zB (zJ 300 ?_)));refine zR (zB (zJ 400 ?_));refine zW (fun c3 => ?_) (fun c3 => ?_)
 ·
  refine zM (zA (zW (fun c3x => ?_) (fun c3x => ?_)))
  ·
   refine zJ 600 ?_;refine zK (zQ (zN ?_));exact u4 rfl (u7 (by first | (simp only [qZ];simp_all;done) | (simp [qZ,oneS,emS,zI,shr1, *];done) | (simp [qZ,oneS,emS,zI,shr1, *];rfl)))
  ·
   simp_all
 ·
  refine yN zL [] 500 ?_;refine zA (zW (fun c4 => ?_) (fun c4 => ?_))
  ·
   refine zJ 600 ?_;refine zK (zQ (zN ?_));exact u4 rfl (u7 (by first | (simp only [qZ];simp_all;done) | (simp [qZ,oneS,emS,zI,shr1, *];done) | (simp [qZ,oneS,emS,zI,shr1, *];rfl)))
  ·
   refine zJ 700 ?_;refine zW (fun c6 => ?_) (fun c6 => ?_)
   ·
    refine zJ 800 ?_;refine zK (zQ (zN ?_));exact u4 rfl (u7 (by first | (simp only [qZ];simp_all;done) | (simp [qZ,oneS,emS,zI,shr1, *];done) | (simp [qZ,oneS,emS,zI,shr1, *];rfl)))
   ·
    refine zJ 900 ?_;refine zW (fun c8 => ?_) (fun c8 => ?_)
    ·
     refine zB (zE zL [] 1000 rfl ?_);refine zF ?_;refine zO _ (uC0 _ _ (by first | exact hin.nn | assumption)) rfl ?_;refine zf (zA (zK (zQ (zN ?_))));exact u4 rfl (u7 (by first | (simp only [qZ];simp_all;done) | (simp [qZ,oneS,emS,zI,shr1, *];done) | (simp [qZ,oneS,emS,zI,shr1, *];rfl)))
    ·
     refine zJ 1100 ?_;refine zW (fun c10 => ?_) (fun c10 => ?_)
     ·
      refine zJ 1200 ?_;refine zB (zE zL [] 1300 rfl ?_);refine zF ?_;refine zO _ (RatioOk_ok _ _ _ _ hin.nl hin.dl hin.nn hin.dn) rfl ?_;refine zf (zA (zK (zQ (zN ?_))));exact u4 rfl (u7 (by first | (simp only [qZ];simp_all;done) | (simp [qZ,oneS,emS,zI,shr1, *];done) | (simp [qZ,oneS,emS,zI,shr1, *];rfl)))
     ·
      refine zJ 1400 ?_;refine zW (fun c13 => ?_) (fun c13 => ?_)
      ·
       refine zB (zE zL [] 1500 rfl ?_);refine zF ?_;refine yK _ (fun hg12 => ValidString_ok _ om) rfl ?_;refine zf (zA (zK (zQ (zN ?_))));exact u4 rfl (u7 (by first | (simp only [qZ];simp_all;done) | (simp [qZ,oneS,emS,zI,shr1, *];done) | (simp [qZ,oneS,emS,zI,shr1, *];rfl)))
      ·
       refine zJ 1600 ?_;refine zW (fun c15 => ?_) (fun c15 => ?_)
       ·
        refine zJ 1700 ?_;refine zK (zQ (zN ?_));exact u4 rfl (u7 (by first | (simp only [qZ];simp_all;done) | (simp [qZ,oneS,emS,zI,shr1, *];done) | (simp [qZ,oneS,emS,zI,shr1, *];rfl)))
       ·
        refine zJ 1800 ?_;refine zW (fun c17 => ?_) (fun c17 => ?_)
        ·
         refine zB (zE zL [] 1900 rfl ?_);refine zF ?_;refine yK _ (fun hg12 => zN0 _ ao) rfl ?_;refine zf (zA (zK (zQ (zN ?_))));exact u4 rfl (u7 (by first | (simp only [qZ];simp_all;done) | (simp [qZ,oneS,emS,zI,shr1, *];done) | (simp [qZ,oneS,emS,zI,shr1, *];rfl)))
        ·
         refine zJ 2000 ?_;refine zW (fun c19 => ?_) (fun c19 => ?_)
         ·
          refine zJ 2100 ?_;refine zK (zQ (zN ?_));exact u4 rfl (u7 (by first | (simp only [qZ];simp_all;done) | (simp [qZ,oneS,emS,zI,shr1, *];done) | (simp [qZ,oneS,emS,zI,shr1, *];rfl)))
         ·
          refine zM (zP (zA (zJ 2200 ?_)));refine zK ?_;exact u4 rfl (u7 (by first | (simp only [qZ];simp_all;done) | (simp [qZ,oneS,emS,zI,shr1, *];done) | (simp [qZ,oneS,emS,zI,shr1, *];rfl)))
theorem Has_ok (h : List Ob) (v : Vl) (hin : VlIn v) : Fx 29 [hpD md h,.agg (vlD v)] (.v (.bool (hasS h v))) := by
 refine yD zL Tryz.func29 rfl rfl rfl rfl rfl rfl ?_;intros;refine zJ 100 ?_;refine zB (zE zL [] 200 rfl ?_);refine zF ?_;refine zO _ (xQ _ (by first | assumption | exact hin)) rfl ?_;refine zF ?_;refine yK _ (fun hg10 => uM _ _) rfl ?_;refine zf (zA (zK ?_));exact u4 rfl (u6 _)
theorem pW0 (k : Int) (hk : 0 <= k /\ k < 21) : Fx 139 [.v (.int .i64 k)] (.v (.string (uU k))) := by
 refine yD zL Tryz.func139 rfl rfl rfl rfl rfl rfl ?_;intros;refine zJ 100 ?_;refine zB (zE zL [] 200 rfl ?_);repeat (first | refine zH ?_ | refine zU (by exact pX0 hk) ?_)
 refine zO _ (pE0 _ _ de de) rfl ?_;repeat (first | refine zH ?_ | refine zU (by exact pX0 hk) ?_)
 refine zC (zA (zK ?_));exact u4 rfl (u6 _)
end Go.Proofs.YtinegkcbkefeiaaGreatDoor
