/- Part 26 of the proof. -/
import Derived.Test.YtinegkcbkefeiaaGreatDoorM25
import Derived.Shelf.Small.Strs
namespace Go.Proofs.YtinegkcbkefeiaaGreatDoor
open Go.RowKit
theorem wp_mono2 {P : Program} {o : Oper} {a : Act} {w : World} {K K' : Act -> World -> Prop} {Q Q' : Exit -> Act -> World -> Prop} (hK : ∀ a w,K a w -> K' a w) (hQ : ∀ e a w,e ≠ .normal -> Q e a w -> Q' e a w) (h : o.wp P a w K Q) : o.wp P a w K' Q' := by
 unfold Oper.wp at *;generalize (execOp a.eval o).run P w = r at *;unfold Oper.upon at *;split at h
 ·exact hK _ _ h
 ·exact hK _ _ h
 ·exact hK _ _ h
 ·refine Calls.mono h ?_;intro e w'' he
  cases e with
  | returned v => exact hK _ _ he
  | panicked ch => exact hQ _ _ _ (by intro h;cases h) he
  | outgrown => obtain ⟨a0,w0,h0⟩ := he;exact ⟨a0,w0,hQ _ _ _ (by intro h;cases h) h0⟩
 ·exact Rows.mono h fun v w'' => hK _ _
 ·exact hQ _ _ _ (by intro h;cases h) h
 ·exact h
theorem dL {P : Program} {ops : Array Oper} {Q : Exit -> Act -> World -> Prop} : ∀ {l1 l2 : List Oper} {a : Act} {w : World},wpList P ops (Exit.then (fun a w => wpList P ops Q l2 a w) Q) l1 a w -> wpList P ops Q (l1 ++ l2) a w
 | [],_,_,_,h => h
 | o :: l1,l2,a,w,h => by
  rw [List.cons_append];unfold wpList at h ⊢;by_cases hw : Region.wanted o (yielded ops a.tmps) = true
  ·rw [Ac hw] at h ⊢;refine h.imp (wp_mono2 (fun a w => dL) fun e a w hne hq => ?_) (And.imp id fun ⟨a0,w0,h0⟩ => ⟨a0,w0,h0⟩)
   cases e <;> first | exact absurd rfl hne | exact hq
  ·rw [Aa hw] at h ⊢;exact dL h
theorem xQ0 {P : Program} {T : List (Nat × TI)} (hT : xI P T = true) (fls : List Nat) {ops l1 l2 : List Oper} {b : Ba} {tm : List (Nat × D)} {ow : List (Nat × DOwn)} {nx0 : Nat} (nx1 : Nat) (K : DS -> Prop) {Q : Exit -> Act -> World -> Prop} {w : World} {s : Sb} {g : Gh} {a : Act} (hr : Rel b w s g (DS.ste ⟨tm,ow,nx0⟩) a) (hn : Nat.ble (nx0 + l1.length) nx1 = true)
  (h : (jZ0 T fls ops none b.sz nx0 nx1 l1 nat0 tm ow []).sat P (fun _ => False) K) (hQ : ∀ w' s' g' a' S',Rel b w' s' g' (DS.ste S') a' -> K S' -> wpList P ops.toArray Q l2 a' w') : wpList P ops.toArray Q (l1 ++ l2) a w := by
 refine dL ?_;obtain ⟨rows,tm',ow',h1,h2,_⟩ := xP hT xY0 h;refine Tr.run _ h1 (fun w' s' g' a' hR => ?_) (fun ch w' s' g' a' hch _ => hch.elim) w s g a hr.toF;exact hQ w' s' g' a' ⟨tm',ow',nx1⟩ (RelF.toRel hR (fun t d hd => hd) (fun k c hk => hk) (fun k hk => by have := At hn;have hk' : nx1 <= k := hk;omega)) h2
theorem Rel.past {b : Ba} {w w' : World} {s s' : Sb} {g : Gh} {S : Ste} {a : Act} {acc : List (Nat × Own)} (h : Rel b w s g S a) (hp : Pst w s g acc w' s') (ha : ∀ k c,fnd k acc = some c -> fnd k S.ow = some c) {tm' : List (Nat × TV)} {ow' : List (Nat × Own)}
  (ht : ∀ t d,fnd t tm' = some d -> fnd t S.tm = some d) (ho : ∀ k c,fnd k ow' = some c -> fnd k S.ow = some c /\ fnd k acc = none) : Rel b w' s' g ⟨tm',ow',S.nx⟩ a := by
 have hne : ∀ k c,fnd k ow' = some c -> ∀ N,blk g k c = some N -> ∀ k0 c0,fnd k0 acc = some c0 -> blk g k0 c0 ≠ some N := fun k c hk N hb k0 c0 h0 => by
  obtain ⟨h1,h2⟩ := ho k c hk;refine h.sep k k0 c c0 N h1 (ha _ _ h0) ?_ hb;rintro rfl;rw [h2] at h0;cases h0
 refine ⟨⟨h.kp.ex.trans hp.ex,fun B o hs => ?_,fun B o hs => ?_,hp.os.trans h.kp.os,hp.tape.trans h.kp.tape,hp.output.trans h.kp.output,Av h.kp.size hp.size,fun k hk hm => ?_,h.kp.gl⟩,hp.lt,h.sz,fun t d hd => ?_,fun k c hk => ?_,fun k k' c c' N h1 h2 => h.sep k k' c c' N (ho k c h1).1 (ho k' c' h2).1,h.fr,h.df,h.gb⟩
 ·rcases hp.st B o hs with h1 | h1 | ⟨k0,c0,h0,h1⟩
  ·exact h.kp.st B o h1
  ·exact .inr (.inl (Av h.kp.size h1))
  ·exact .inr ((h.ow k0 c0 (ha k0 c0 h0)).2 B h1)
 ·rcases hp.sst B o hs with h1 | h1 | ⟨k0,c0,h0,h1⟩
  ·exact h.kp.sst B o h1
  ·exact .inr (.inl (Av h.kp.size h1))
  ·exact .inr ((h.ow k0 c0 (ha k0 c0 h0)).2 B h1)
 ·refine (hp.block k (Bk hk h.kp.size) fun k0 c0 h0 hb => ?_).trans (h.kp.block k hk hm);rcases (h.ow k0 c0 (ha k0 c0 h0)).2 k hb with h1 | h1
  ·omega
  ·exact hm h1
 ·obtain ⟨v,h1,h2⟩ := h.tm t d (ht t d hd);exact ⟨v,h1,TV.mono hp.ex (GLe.refl g) h2⟩
 ·obtain ⟨h1,h2⟩ := h.ow k c (ho k c hk).1;refine ⟨h1.keep hp.ex (GLe.refl g) (fun _ => rfl) (fun N hb => hp.block N (h1.lt hb) (hne k c hk N hb)) fun N o hb hs => ?_,h2⟩;rcases hp.st N o hs with h3 | h3 | ⟨k0,c0,h0,h3⟩
  ·exact h3
  ·have := h1.lt hb;omega
  ·exact absurd h3 (hne k c hk N hb k0 c0 h0)
theorem Rel.putV {b : Ba} {w : World} {s : Sb} {g : Gh} {S : Ste} {a : Act} (h : Rel b w s g S a) {t : Nat} {d : TV} {v : Value} (ht : t < b.sz) (hd : d.P w s g v) : Rel b w s g ⟨(t,d) :: S.tm,S.ow,S.nx⟩ (a.put (some t) v) :=
 (h.step (acc := []) (acc' := []) (dst := some t) (out := d) (v := v) (nx := S.nx) (Stp.refl w s g h.lt) (fun k c h => by cases h) (fun k c h => by cases h) (Ak _) (fun k c h => by cases h) (fun e he => by cases he;exact ht) hd).congr (fun _ _ h => h) (fun _ _ h => h) (Ak _)
theorem start_rel {args : List D} {w : World} {s : Sb} {vs : List Value} {n m : Nat} (hfl : D.flats args = true) (hlt : ∀ B o,s B o -> B < w.heap.size) (hgl : Glb w s) (hv : AllV w s (D.pvs args) vs) (hm : m = n) (hl : args.length <= n) :
  Rel ⟨w,s,fun _ => False,n,⟨fun _ => none,fun _ _ => none⟩,[]⟩ w s ⟨fun _ => none,fun _ _ => none⟩ (DS.ste ⟨argD 0 args,[],0⟩) { tmps := vs.toArray ++ Array.replicate (m - vs.toArray.size) undef,defers := [] } := by
 subst hm;have hlen := hv.length;rw [jZ] at hlen;refine ⟨⟨Ex.refl w s,(fun B o h => .inl h),(fun B o h => .inl h),rfl,rfl,rfl,Ak _,fun _ _ _ => rfl,hgl⟩,hlt,?_,fun t d ht => ?_,(fun _ _ h => by cases h),(fun _ _ _ _ _ h => by cases h),fun _ _ => ⟨rfl,fun _ => rfl⟩,rfl,fun _ _ => ⟨(fun _ h => by cases h),fun _ _ h => by cases h⟩⟩
 ·simp;omega
 ·have ht' : fnd t (tvs (argD 0 args)) = some d := ht;rw [qJ] at ht'
  cases hx : yW t (argD 0 args) with
  | none => rw [hx] at ht';cases ht'
  | some e =>
   rw [hx] at ht';cases ht';obtain ⟨j,h1,h2⟩ := cB hx;obtain ⟨v,h3,h4⟩ := hv.get (cT h2);have hj := (Ad.1 h3).1;refine ⟨v,?_,D.ofPV (dA hfl (Bh h2)) h4⟩;have ht' : t = j := by omega
   rw [ht',Ds (by simpa using hj)];simpa using h3
def zsV : List Value := [.int .i64 0,.int .i64 0,.bool false,.slice none 0 0,.bool false,.slice none 0 0,.string ByteArray.empty,.int .i64 0,.int .i64 0,.string ByteArray.empty,.int .i64 0,.bool false,.slice none 0 0,.bool false,.slice none 0 0,.string ByteArray.empty,.int .i64 0,.slice none 0 0]
def rsV (c : Int) (t : ByteArray) : List Value := [.int .i64 1,.int .i64 0,.bool false,.slice none 0 0,.bool false,.slice none 0 0,.string ByteArray.empty,.int .i64 0,.int .i64 c,.string t,.int .i64 0,.bool false,.slice none 0 0,.bool false,.slice none 0 0,.string ByteArray.empty,.int .i64 0,.slice none 0 0]
theorem rsV_of {w : World} {s : Sb} {g : Gh} {c : Int} {t : ByteArray} {vs : List Value} (h : AllT w s g (D.tvl (rsL c t)) vs) : vs = rsV c t := jN0 (l := rsL c t) (r := rsV c t) rfl h
theorem zsV_of {w : World} {s : Sb} {g : Gh} {vs : List Value} (h : AllT w s g (D.tvl (jX zsV)) vs) : vs = zsV := jN0 (l := jX zsV) (r := zsV) rfl h
theorem rc_idle (p : Addr) (w : World) :
  CallsD Tryz.prog 88 #[.pointer (some p)] .returning w fun e u' w' => e = .returned (.tuple #[]) /\ u' = .returning /\ w' = w := by
 refine callsD_of_wpS Tryz.func88 rfl fun c₀ cs hu => ?_;apply wpS_seq;apply wpS_region;simp [wpOpsS,go_sem,recoverD,hu,Tryz.ntmps88,Exit.thenS];apply wpS_seq;apply wpS_region;simp [wpOpsS,go_sem,Exit.thenS];refine wpS_cond (t := false) (by simp [Act.eval,Array.replicate]) ?_;simp only [Az,if_false];refine wpS_of_wp (wp_skip ?_)
 cases c₀
 simp_all [bodyPostS,results,Tryz.results88]
structure RcP (w : World) (s : Sb) (N : Nat) (vs : List Value) (w' : World) (s' : Sb) : Prop where
 p : Pst w s ⟨fun k => if k = 0 then some N else none,fun _ _ => none⟩ [(0,.box 33 [])] w' s'
 c : w'.heap[N]? = some (.cells vs.toArray 33 (0,0))
 n : ∀ o,¬ s' N o
theorem rc_pan (c : Int) (t : ByteArray) (N : Nat) (older : List PanicEntry) (w : World) (s : Sb) (hlt : ∀ B o,s B o -> B < w.heap.size) (hN : w.heap[N]? = some (.cells zsV.toArray 33 (0,0))) (hs : ∀ o,¬ s N o) (hgl : Glb w s) :
  CallsD Tryz.prog 88 #[.pointer (some ⟨N,0,none⟩)] (.panicking ({ v := mR c t,recovered := false } :: older)) w fun e u' w' => e = .returned (.tuple #[]) /\ u' = .panicking ({ v := mR c t,recovered := true } :: older) /\ ∃ s',RcP w s N (rsV c t) w' s' := by
 refine callsD_of_wpS Tryz.func88 rfl fun c₀ cs hu => ?_;apply wpS_seq;apply wpS_region;simp [wpOpsS,go_sem,recoverD,hu,Tryz.ntmps88,Exit.thenS,mR];apply wpS_seq;apply wpS_region;simp [wpOpsS,go_sem,Exit.thenS];refine wpS_cond (t := true) (by simp [Act.eval,Array.replicate]) ?_;simp only [if_true];refine wpS_of_wp ?_;refine (show Ev Tryz.prog ⟨w,s,fun B => B = N,Tryz.f88.ntmps,⟨fun k => if k = 0 then some N else none,fun _ _ => none⟩,[]⟩ _ ⟨[(0,.bp 0 0),(1,.v (mR c t))],[(0,.box 33 (jX zsV))],1⟩ (fun ex S => ex = .normal /\ yW 0 S.ow = some (.box 33 (rsL c t))) from ?_) w s ⟨fun k => if k = 0 then some N else none,fun _ _ => none⟩ _ _ ?_ ?_
 ·refine zJ 100 ?_;refine zB (zJ 200 ?_);refine ev_condF rfl ?_;refine zM (zA (yM zL [] 300 ?_));exact ⟨rfl,rfl⟩
 ·refine ⟨⟨Ex.refl w s,(fun _ _ h => .inl h),(fun _ _ h => .inl h),rfl,rfl,rfl,Ak _,fun _ _ _ => rfl,hgl⟩,hlt,(by simp),fun u d hd => ?_,fun k c' hk => ?_,fun k k' c1 c2 M h1 h2 hne => ?_,fun k hk => ?_,rfl,fun _ _ => ⟨fun _ h => h,fun _ _ h => h⟩⟩
  ·have hd : fnd u (tvs [(0,.bp 0 0),(1,.v (mR c t))]) = some d := hd;rw [qJ,yR,yR] at hd;by_cases h0 : 0 = u
   ·subst h0;simp at hd;subst hd;exact ⟨.pointer (some ⟨N,0,none⟩),by simp,N,rfl,rfl⟩
   ·by_cases h1 : 1 = u
    ·subst h1;simp at hd;subst hd;exact ⟨mR c t,by simp [mR],rfl⟩
    ·simp only [h0,h1,if_false] at hd;cases hd
  ·have hk : fnd k [(0,Own.box 33 (D.tvl (jX zsV)))] = some c' := hk;obtain ⟨rfl,rfl⟩ := qC hk;refine ⟨⟨N,zsV,rfl,hN,by rw [wC];exact AllT.lits _ _ _ _,fun d hd => ?_,hs⟩,fun M hM => .inr ?_⟩
   ·rw [wC] at hd;obtain ⟨z,hz,rfl⟩ := Cn.1 hd;exact Bf.1 (show zsV.all (fun v => v.oneCell') = true from rfl) z hz
   ·have : some N = some M := hM
    cases this;rfl
  ·have h1 : fnd k [(0,Own.box 33 (D.tvl (jX zsV)))] = some c1 := h1;have h2 : fnd k' [(0,Own.box 33 (D.tvl (jX zsV)))] = some c2 := h2;exact absurd ((qC h1).1.trans (qC h2).1.symm) hne
  ·have hk : 1 <= k := hk;have : k ≠ 0 := by omega
   simp [this]
 ·rintro ex w' s' g' a' S' hR ⟨rfl,hk⟩;refine ⟨hR.df,_,rfl,.tuple #[],by simp [results,Tryz.results88],rfl,rfl,s',?_⟩;have h1 : fnd 0 S'.ste.ow = some (DOwn.box 33 (rsL c t)).o := by show fnd 0 (ows S'.ow) = _;rw [qM,hk];rfl
  obtain ⟨M,vs,e1,e2,e3,e4,e5⟩ := (hR.ow 0 _ h1).1;have hM : M = N := by
   have := (hR.gb 0 de).1 N rfl;rw [e1] at this;cases this;rfl
  subst hM;have hvs := rsV_of e3;subst hvs;exact ⟨⟨hR.kp.ex,hR.lt,hR.kp.os,hR.kp.tape,hR.kp.output,hR.kp.size,fun B hB hne => hR.kp.block B hB fun e => hne 0 _ rfl (by rw [show B = M from e];rfl),fun B o hB => (hR.kp.st B o hB).imp id (Or.imp id fun e => ⟨0,_,rfl,by rw [show B = M from e];rfl⟩),fun B o hB => (hR.kp.sst B o hB).imp id (Or.imp id fun e => ⟨0,_,rfl,by rw [show B = M from e];rfl⟩)⟩,e2,e5⟩
theorem FnQ.run {α : Type} {P : Program} {f : FuncId} {args : List D} {own : DOwn} {res : Except Value α} {out : α -> D} {own' : α -> DOwn} {o0 : D} (h : FnQ P f args own res out own' o0) {w : World} {s : Sb} {g : Gh} {vs : List Value}
  (hfr : ∀ (acc' : List (Nat × Own)),acc'.map (·.1) = [0] -> Good w s g [(0,own.o)] acc') (hv : AllT w s g (D.tvl args) vs) :
  Bod P f /\ Calls P f vs.toArray w fun e w' => (∃ a,res = .ok a /\ ∃ s' v,e = .returned v /\ (∃ g',(out a).tv.P w' s' g' v) /\ Pst w s g [(0,own.o)] w' s') \/ ∃ V,res = .error V /\ ∃ s',e = .panicked [{ v := V,recovered := false }] /\ Pst w s g [(0,own.o)] w' s' := by
 cases res with
 | ok a =>
  have h : GFun P f (D.tvl args) [(0,own.o)] (out a).tv [(0,(own' a).o)] := h;refine ⟨h.bod,(h.run w s g vs (hfr _ rfl) hv).mono ?_⟩;rintro e w' ⟨s',g',v,rfl,h1,h2⟩;exact .inl ⟨a,rfl,s',v,rfl,⟨g',h1⟩,h2.ex,h2.lt,h2.os,h2.tape,h2.output,h2.size,h2.block,h2.st,h2.sst⟩
 | error V =>
  have h : GFunE P (pnV V) f (D.tvl args) [(0,own.o)] o0.tv [(0,deadO.o)] := h;refine ⟨h.bod,(h.run w s g vs (hfr _ rfl) hv).mono ?_⟩;rintro e w' (⟨s',g',v,rfl,h1,h2⟩ | ⟨ch,s',rfl,h1,h2⟩)
  ·exfalso;obtain ⟨N,us,_,_,h3,_⟩ := h2.ok 0 deadO.o rfl;rw [D.tvl,D.tvl] at h3
   cases us with
   | nil => exact h3
   | cons u us => exact h3.1
  ·exact .inr ⟨V,rfl,s',by rw [show ch = _ from h1],h2⟩
theorem jB0 {md : Bool} (h : List Ob) (f : FuncId) (hf0 : f < 1000000) (caps : List D) (hfl : D.flats caps = true) (res : Except Value (Bool × Nat)) (out : St)
  (HC : FnQ Tryz.prog f (.bp 0 0 :: caps) (cqO md h 10000) res qB (qO md h) (.v (.bool false)))
  (ho : ∀ r,res = .ok r -> out = vlS (boV r.1)) (he : ∀ V,res = .error V -> ∃ c t,V = mR c t /\ out = raS c t) :
  Fx 30 [hpD md h,.clo f caps] (.agg (stD out)) := by
 refine ⟨⟨_,Tryz.func30,rfl,rfl⟩,fun w s vs hlt hgl hv => calls_of_wp_defers Tryz.func30 rfl ?_⟩;have hfl0 : D.flats [hpD md h,.clo f caps] = true := by
  rw [D.flats,D.flats,D.flats,D.flat.eq_def (.clo f caps)];simp only [hfl,Bool.and_true];rfl
 have hr0 := start_rel (n := Tryz.f30.ntmps) (m := Tryz.f30.ntmps) (args := [hpD md h,.clo f caps]) hfl0 hlt hgl hv rfl (show 2 <= _ by decide);refine wp_seq ?_;refine (show Ev Tryz.prog ⟨w,s,fun _ => False,Tryz.f30.ntmps,⟨fun _ => none,fun _ _ => none⟩,[]⟩ _ ⟨argD 0 [hpD md h,.clo f caps],[],0⟩ (fun ex S => ex = .normal /\ S = ⟨(4,.bp 1 0) :: (2,.bp 0 0) :: argD 0 [hpD md h,.clo f caps],[(1,.box 33 (jX zsV)),(0,.box 24 [.sl md 10 h obD ob0])],100⟩) from ?_) w s _ _ _ hr0 ?_
 ·refine yM zL [] 100 ?_;exact ⟨rfl,rfl⟩
 rintro ex w1 s1 g1 a1 S1 hR1 ⟨rfl,rfl⟩;refine wp_seq (wp_region_lit (xQ0 (l1 := [_]) (l2 := [_]) zL [] 200 (fun S => S = ⟨(5,.clo 88 [.bp 1 0]) :: (4,.bp 1 0) :: (2,.bp 0 0) :: argD 0 [hpD md h,.clo f caps],[(1,.box 33 (jX zsV)),(0,.box 24 [.sl md 10 h obD ob0])],200⟩) hR1 rfl ?_ ?_))
 ·refine zf ?_;rfl
 rintro w2 s2 g2 a2 S2 hR2 rfl;refine wpList_step fun K hK => ?_;rw [Ac (show Region.wanted _ _ = true from rfl)];obtain ⟨v5,t5,hv5⟩ := hR2.tm 5 (TV.clo 88 [.bp 1 0]) rfl;rw [TV.P] at hv5;obtain ⟨us,e5,hu5⟩ := hv5;obtain ⟨N1,hN1,rfl⟩ : ∃ N1,g2.bx 1 = some N1 /\ us = [.pointer (some ⟨N1,0,none⟩)] := by
  match us,hu5 with
  | [u],hu5 => obtain ⟨⟨N1,h1,rfl⟩,_⟩ := hu5;exact ⟨N1,h1,rfl⟩
  | [],hu5 => exact hu5.elim
  | _ :: _ :: _,hu5 => exact hu5.2.elim
 rw [uK0 de] at e5;subst e5;have hev : a2.eval (.tmp 5) = .func (.func 88) #[] #[.pointer (some ⟨N1,0,none⟩)] := by
  show a2.tmps.getD 5 undef = _;rw [Cx,t5];rfl
 simp [Oper.wp,Oper.upon,execOp,go_sem,t5];rw [show a2.defers = [] from hR2.df];refine hK _ _ ?_;obtain ⟨d,hd⟩ : ∃ d : Deferred,d = { target := .fn (.func 88) #[.pointer (some ⟨N1,0,none⟩)],args := #[] } := ⟨_,rfl⟩
 have hRd : Rel ⟨w,s,fun _ => False,Tryz.f30.ntmps,g2,[d]⟩ w2 s2 g2 (DS.ste ⟨(5,.clo 88 [.bp 1 0]) :: (4,.bp 1 0) :: (2,.bp 0 0) :: argD 0 [hpD md h,.clo f caps],[(1,.box 33 (jX zsV)),(0,.box 24 [.sl md 10 h obD ob0])],200⟩) { tmps := a2.tmps,defers := [d] } :=
  ⟨⟨hR2.kp.ex,hR2.kp.st,hR2.kp.sst,hR2.kp.os,hR2.kp.tape,hR2.kp.output,hR2.kp.size,hR2.kp.block,hR2.kp.gl⟩,hR2.lt,hR2.sz,hR2.tm,hR2.ow,hR2.sep,hR2.fr,rfl,fun k hk => ⟨fun _ h => h,fun _ _ h => h⟩⟩
 rw [<- hd];refine wp_seq (wp_region_lit (xQ0 (l1 := [_,_,_,_]) (l2 := [_,_,_,_]) zL [] 300 (fun S => S = ⟨(9,.bp 203 0) :: (8,.agg [.sl md 10 h obD ob0,.v (.int .i64 10000)]) :: (7,hpD md h) :: (6,.clo f caps) :: (5,.clo 88 [.bp 1 0]) :: (4,.bp 1 0) :: (2,.bp 0 0) :: argD 0 [hpD md h,.clo f caps],[(203,cqO md h 10000),(1,.box 33 (jX zsV)),(0,.box 24 [.sl md 10 h obD ob0])],300⟩) hRd rfl ?_ ?_))
 ·refine zf ?_;rfl
 rintro w3 s3 g3 a3 S3 hR3 rfl;refine wpList_step fun K2 hK2 => ?_;rw [Ac (show Region.wanted _ _ = true from rfl)];obtain ⟨v6,t6,hv6⟩ := hR3.tm 6 (D.clo f caps).tv rfl;rw [D.tv,TV.P] at hv6;obtain ⟨cvs,e6,hc6⟩ := hv6;rw [uK0 hf0] at e6;subst e6;obtain ⟨v9,t9,N9,hN9,rfl⟩ := hR3.tm 9 (TV.bp 203 0) rfl;have hev6 : a3.eval (.tmp 6) = .func (.func f) #[] cvs.toArray := by
  show a3.tmps.getD 6 undef = _;rw [Cx,t6];rfl
 have hev9 : [Operand.tmp 9].map a3.eval = [.pointer (some ⟨N9,0,none⟩)] := by
  show [a3.tmps.getD 9 undef] = _;rw [Cx,t9];rfl
 have hbox : fnd 203 (DS.ste ⟨(9,.bp 203 0) :: (8,.agg [.sl md 10 h obD ob0,.v (.int .i64 10000)]) :: (7,hpD md h) :: (6,.clo f caps) :: (5,.clo 88 [.bp 1 0]) :: (4,.bp 1 0) :: (2,.bp 0 0) :: argD 0 [hpD md h,.clo f caps],[(203,cqO md h 10000),(1,.box 33 (jX zsV)),(0,.box 24 [.sl md 10 h obD ob0])],300⟩).ow = some (cqO md h 10000).o := rfl;have hre : ∀ {l : List D} {vs : List Value} {g g' : Gh},D.flats l = true -> AllT w3 s3 g (D.tvl l) vs -> AllT w3 s3 g' (D.tvl l) vs := fun hf ha => D.ofPVs hf (AllT.weakS (D.toPVs (D.flats_pures hf)) ha);obtain ⟨hbod,hcall⟩ := HC.run (w := w3) (s := s3) (g := ⟨fun k => if k = 0 then some N9 else none,fun _ _ => none⟩) (vs := [Operand.tmp 9].map a3.eval ++ cvs) (fun acc' hacc => by
  refine ⟨hR3.lt,fun k c hk => ?_,fun k k' c c' N h1 h2 hne => absurd ((qC h1).1.trans (qC h2).1.symm) hne,fun k c hk hno => ?_,hR3.kp.gb⟩
  ·obtain ⟨rfl,rfl⟩ := qC hk;obtain ⟨M,us,e1,e2,e3,e4,e5⟩ := (hR3.ow 203 _ hbox).1;rw [hN9] at e1;cases e1;exact ⟨N9,us,rfl,e2,hre (l := [.sl md 10 h obD ob0,.v (.int .i64 10000)]) rfl e3,e4,e5⟩
  ·have hk0 : k ∈ acc'.map (·.1) := kM hk;rw [hacc,Ee] at hk0;subst hk0;rw [yF] at hno;simp at hno) (by
  rw [hev9,D.tvl];exact ⟨⟨N9,rfl,rfl⟩,hre hfl hc6⟩)
 unfold Oper.wp;rw [kV hbod hev6];refine hcall.mono ?_;have hpst : ∀ {w4 : World} {s4 : Sb},Pst w3 s3 ⟨fun k => if k = 0 then some N9 else none,fun _ _ => none⟩ [(0,(cqO md h 10000).o)] w4 s4 -> Pst w3 s3 g3 [(203,(cqO md h 10000).o)] w4 s4 := fun hp => by
  have hb1 : blk g3 203 (cqO md h 10000).o = some N9 := hN9;refine ⟨hp.ex,hp.lt,hp.os,hp.tape,hp.output,hp.size,fun N hN hne => hp.block N hN fun k c hk hb => ?_,fun B o hB => ?_,fun B o hB => ?_⟩
  ·obtain ⟨rfl,rfl⟩ := qC hk;exact hne 203 _ rfl (hb1.trans hb)
  ·rcases hp.st B o hB with h1 | h1 | ⟨k,c,hk,hb⟩
   ·exact .inl h1
   ·exact .inr (.inl h1)
   ·obtain ⟨rfl,rfl⟩ := qC hk;exact .inr (.inr ⟨203,_,rfl,hb1.trans hb⟩)
  ·rcases hp.sst B o hB with h1 | h1 | ⟨k,c,hk,hb⟩
   ·exact .inl h1
   ·exact .inr (.inl h1)
   ·obtain ⟨rfl,rfl⟩ := qC hk;exact .inr (.inr ⟨203,_,rfl,hb1.trans hb⟩)
 have hpast : ∀ {w4 : World} {s4 : Sb},Pst w3 s3 ⟨fun k => if k = 0 then some N9 else none,fun _ _ => none⟩ [(0,(cqO md h 10000).o)] w4 s4 -> Rel ⟨w,s,fun _ => False,Tryz.f30.ntmps,g2,[d]⟩ w4 s4 g3 (DS.ste ⟨[(4,.bp 1 0)],[(1,.box 33 (jX zsV))],300⟩) a3 := fun hp => hR3.past (hpst hp) (fun k c hk => by obtain ⟨rfl,rfl⟩ := qC hk;rfl) (fun t d ht => by
   have ht : fnd t [(4,TV.bp 1 0)] = some d := ht;rw [yF] at ht;by_cases h4 : 4 = t
   ·subst h4;simp at ht;subst ht;rfl
   ·simp only [h4,if_false] at ht;cases ht) (fun k c hk => by
   have hk : fnd k [(1,Own.box 33 (D.tvl (jX zsV)))] = some c := hk;obtain ⟨rfl,rfl⟩ := qC hk;exact ⟨rfl,rfl⟩)
 have hstp : ∀ {w5 : World} {s5 : Sb},Kp ⟨w,s,fun _ => False,Tryz.f30.ntmps,g2,[d]⟩ w5 s5 -> (∀ B o,s5 B o -> B < w5.heap.size) -> PStp w s w5 s5 := fun hk hl => ⟨hk.ex,hl,hk.os,hk.tape,hk.output,hk.size,fun N hN => hk.block N hN id,fun B o hs => (hk.st B o hs).elim .inl fun x => x.elim .inr fun x => x.elim,fun B o hs => (hk.sst B o hs).elim .inl fun x => x.elim .inr fun x => x.elim⟩;rintro e w4 (⟨r,hr,s4,v,rfl,⟨g',hv4⟩,hp⟩ | ⟨V,hV,s4,rfl,hp⟩)
 ·refine hK2 _ _ ?_;have hv4 : v = .bool r.1 := hv4;subst hv4;have hR5 : Rel ⟨w,s,fun _ => False,Tryz.f30.ntmps,g2,[d]⟩ w4 s4 g3 (DS.ste ⟨[(10,.v (.bool r.1)),(4,.bp 1 0)],[(1,.box 33 (jX zsV))],300⟩) (a3.put (some 10) (.bool r.1)) := (hpast hp).putV (t := 10) (d := .pv (PV.lit (.bool r.1))) (show 10 < Tryz.f30.ntmps by decide) rfl;refine xQ0 (l1 := [_,_,_]) (l2 := []) zL [] 400 (fun S => S = ⟨(12,.agg (stD (vlS (boV r.1)))) :: (11,.agg (vlD (boV r.1))) :: (10,.v (.bool r.1)) :: (4,.bp 1 0) :: [],[(1,.box 33 (stD (vlS (boV r.1)))),(1,.box 33 (jX zsV))],400⟩) hR5 rfl ?_ ?_
  ·refine zF ?_;refine zO _ (heapBool_ok r.1) rfl ?_;refine zF ?_;refine zO _ (cmpValue_ok (boV r.1)) rfl ?_;refine zf ?_;rfl
  rintro w5 s5 g5 a5 S5 hR5 rfl;refine wp_ret ?_;show Leaves _ _ a5.tmps _ a5.defers .returning w5;rw [show a5.defers = [d] from hR5.df,hd];refine leaves_cons (f := 88) (args := #[.pointer (some ⟨N1,0,none⟩)]) (by simp) (by simp [go_sem]) ((rc_idle ⟨N1,0,none⟩ w5).mono ?_);rintro e u' w6 ⟨rfl,rfl,rfl⟩;obtain ⟨v,h1,h2⟩ := Res1.run (P := Tryz.prog) hR5 (vH zL (r := .cell 4 33) (d := .agg (stD (vlS (boV r.1)))) rfl);exact ⟨v,gA rfl h1,s5,v,rfl,by rw [ho r hr];exact h2,hstp hR5.kp hR5.lt⟩
 ·obtain ⟨c,t,rfl,hout⟩ := he V hV;have hR4 := hpast hp;show Leaves _ _ a3.tmps _ a3.defers (.panicking _) w4;rw [show a3.defers = [d] from hR3.df,hd];obtain ⟨M,us,e1,e2,e3,e4,e5⟩ := (hR4.ow 1 (Own.box 33 (D.tvl (jX zsV))) rfl).1;have hM : M = N1 := by
   have := (hR4.gb 1 de).1 N1 hN1;rw [e1] at this;cases this;rfl
  subst hM;have hus := zsV_of e3;subst hus;refine leaves_cons (f := 88) (args := #[.pointer (some ⟨M,0,none⟩)]) (by simp) (by simp [go_sem]) ((rc_pan c t M [] w4 s4 hR4.lt e2 e5 hR4.kp.gb).mono ?_);rintro e u' w6 ⟨rfl,rfl,s6,hrc⟩;have hb1 : blk g3 1 (Own.box 33 (D.tvl (jX zsV))) = some M := e1;have hstp2 : Stp w4 s4 g3 [(1,.box 33 (D.tvl (jX zsV)))] w6 s6 g3 [(1,.box 33 (D.tvl (rsL c t)))] := by
   refine ⟨hrc.p.ex,hrc.p.lt,GLe.refl g3,fun _ _ => ⟨rfl,fun _ => rfl⟩,hrc.p.os,hrc.p.tape,hrc.p.output,hrc.p.size,fun N hN hne => hrc.p.block N hN fun k c' hk hb => ?_,fun B o hB => ?_,fun B o hB => ?_,fun k c' hk => ?_,fun k c' N hk hb => ?_,fun k k' c1 c2 N h1 h2 hne => absurd ((qC h1).1.trans (qC h2).1.symm) hne,fun k c' hk => ?_⟩
   ·obtain ⟨rfl,rfl⟩ := qC hk;exact hne 1 _ rfl (hb1.trans hb)
   ·rcases hrc.p.st B o hB with h1 | h1 | ⟨k,c',hk,hb⟩
    ·exact .inl h1
    ·exact .inr (.inl h1)
    ·obtain ⟨rfl,rfl⟩ := qC hk;exact .inr (.inr ⟨1,_,rfl,hb1.trans hb⟩)
   ·rcases hrc.p.sst B o hB with h1 | h1 | ⟨k,c',hk,hb⟩
    ·exact .inl h1
    ·exact .inr (.inl h1)
    ·obtain ⟨rfl,rfl⟩ := qC hk;exact .inr (.inr ⟨1,_,rfl,hb1.trans hb⟩)
   ·obtain ⟨rfl,rfl⟩ := qC hk;refine ⟨M,rsV c t,e1,hrc.c,?_,fun d' hd' => ?_,hrc.n⟩
    ·rw [show rsL c t = jX (rsV c t) from rfl,wC];exact AllT.lits _ _ _ _
    ·rw [show rsL c t = jX (rsV c t) from rfl,wC] at hd';obtain ⟨z,hz,rfl⟩ := Cn.1 hd';exact Bf.1 (show (rsV c t).all (fun v => v.oneCell') = true from rfl) z hz
   ·obtain ⟨rfl,rfl⟩ := qC hk;exact .inr ⟨1,_,rfl,hb⟩
   ·obtain ⟨rfl,rfl⟩ := qC hk;exact ⟨_,rfl⟩
  have hR6 := hR4.step (dst := none) (out := .pv (PV.lit undef)) (v := undef) (nx := 300) hstp2 (fun k c' hk => by obtain ⟨rfl,rfl⟩ := qC hk;rfl) (fun k c' hk => by obtain ⟨rfl,rfl⟩ := qC hk;exact .inl ⟨_,rfl⟩) (Ak _) (fun k c' hk => by obtain ⟨rfl,rfl⟩ := qC hk;decide) (fun _ h => by cases h) rfl;have hR6 : Rel ⟨w,s,fun _ => False,Tryz.f30.ntmps,g2,[d]⟩ w6 s6 g3 (DS.ste ⟨[(4,.bp 1 0)],[(1,.box 33 (rsL c t)),(1,.box 33 (jX zsV))],300⟩) a3 := hR6;obtain ⟨v,h1,h2⟩ := Res1.run (P := Tryz.prog) hR6 (vH zL (r := .cell 4 33) (d := .agg (rsL c t)) rfl);have hsub : SubP (.agg (rsL c t)) (.agg (stD (raS c t))) := u20 nz;exact ⟨v,gA rfl h1,s6,v,rfl,by rw [hout];exact hsub _ _ _ h2,hstp hR6.kp hR6.lt⟩
variable {md me : Bool}
def saP (F : Nat -> Vl -> Vl -> QR) (h : List Ob) (n : Nat) (a b : Vl) : QR := if n = 0 then none else if a = b then some (true,n - 1) else if (zU h a).kind = (zU h b).kind /\ ((zU h a).kind = 1 \/ (zU h a).kind = 5) then prQ F (zU h a).items (zU h b).items (n - 1) else some (false,n - 1)
def saS (h : List Ob) : Nat -> Nat -> Vl -> Vl -> QR
 | 0 => fun _ _ _ => none
 | f + 1 => fun n a b => saP (saS h f) h n a b
theorem saP_le {F : Nat -> Vl -> Vl -> QR} (hF : LeQ F) (h : List Ob) : LeQ (saP F h) := by
 intro n a b r e;unfold saP at e;split at e
 ·cases e
 ·split at e
  ·cases e;exact Nat.sub_le _ _
  ·split at e
   ·unfold prQ at e;split at e
    ·have := zP1 hF _ _ _ e;omega
    ·cases e;exact Nat.sub_le _ _
   ·cases e;exact Nat.sub_le _ _
theorem bI0 (h : List Ob) : ∀ f,LeQ (saS h f)
 | 0 => fun _ _ _ _ e => by cases e
 | f + 1 => saP_le (bI0 h f) h
theorem uI1 {F : Nat -> Vl -> Vl -> QR} {h : List Ob} {n : Nat} {a b : Vl} (h0 : n = 0) : saP F h n a b = none := Ac h0
theorem uG1 {F : Nat -> Vl -> Vl -> QR} {h : List Ob} {n : Nat} {a b : Vl} (h0 : ¬ n = 0) (h1 : a = b) : saP F h n a b = some (true,n - 1) := (Aa h0).trans (Ac h1)
theorem qW1 {F : Nat -> Vl -> Vl -> QR} {h : List Ob} {n : Nat} {a b : Vl} (h0 : ¬ n = 0) (h1 : ¬ a = b) (h2 : (zU h a).kind = (zU h b).kind /\ ((zU h a).kind = 1 \/ (zU h a).kind = 5)) : saP F h n a b = prQ F (zU h a).items (zU h b).items (n - 1) := (Aa h0).trans ((Aa h1).trans (Ac h2))
theorem uH1 {F : Nat -> Vl -> Vl -> QR} {h : List Ob} {n : Nat} {a b : Vl} (h0 : ¬ n = 0) (h1 : ¬ a = b) (h2 : ¬ ((zU h a).kind = (zU h b).kind /\ ((zU h a).kind = 1 \/ (zU h a).kind = 5))) : saP F h n a b = some (false,n - 1) := (Aa h0).trans ((Aa h1).trans (Aa h2))
set_option maxHeartbeats 1000000 in
theorem vJ0 (h : List Ob) (n : Nat) (a b : Vl) (F : Nat -> Vl -> Vl -> QR) (hn : n <= 10000) (hh : HpIn h) (g : Uh h) (hva : Vd h a) (hvb : Vd h b) (hF : LeQ F) (H : ∀ m,m < n -> ∀ x y,Vd h x -> Vd h y -> FnQ Tryz.prog 34 [.bp 0 0,.agg (vlD x),.agg (vlD y)] (cqO md h m) (qE (F m x y)) qB (qO md h) (.v (.bool false))) : FnQ Tryz.prog 34 [.bp 0 0,.agg (vlD a),.agg (vlD b)] (cqO md h n) (qE (saP F h n a b)) qB (qO md h) (.v (.bool false)) := by
 refine kO zL Tryz.func34 rfl rfl rfl rfl rfl rfl (fun _ => rfl) rfl ?_;intro w0 s0 mx;refine zJ 100 ?_;by_cases c0 : n = 0
 ·refine zB (zE zL [1010] 200 rfl ?_);refine zF ?_;refine uH _ _ ((dY h n hn).no (Ac c0)) (FinQ.pan (xD (uI1 c0))) rfl ?_;refine zf (zA ?_);exact uC 0
 ·refine zB (zE zL [1010] 200 rfl ?_);refine zF ?_;refine yQ _ _ ((dY h n hn).yes (Aa c0)) rfl ?_;refine zf (zA (zB ?_));refine zB (zE zL [] 300 rfl ?_);refine zF ?_;refine zO _ (wA a b) rfl ?_;refine zF ?_;refine zC (zA (zT rfl (fun c2 => ?_) (fun c2 => ?_)))
  ·have c2 : a = b := by simpa using c2
   refine zJ 400 ?_;refine zK (zN ?_);exact FinQ.of (true,n - 1) (uL (uG1 c0 c2)) (u11 1 rfl rfl (u0 _) ⟨⟨rfl,u0 _,rfl,u0 _,rfl,trivial⟩,trivial⟩)
  ·have c2 : ¬ a = b := by simpa using c2
   refine zM (zA ?_);refine zB (zW zL [] mK2 500 yP kr rfl ?_);refine zF ?_;refine zO _ (uV h a hva.2) rfl ?_;refine zF ?_;refine zO _ (uV h b hvb.2) rfl ?_;refine zF ?_;refine zC (zA (zB (zJ 600 ?_)));refine zT rfl (fun c5 => ?_) (fun c5 => ?_)
   ·have c5 : ¬ ((zU h a).kind = (zU h b).kind /\ ((zU h a).kind = 1 \/ (zU h a).kind = 5)) := by
     intro h9;simp at c5;omega
    refine zJ 700 ?_;refine zK (zN ?_);exact FinQ.of (false,n - 1) (uL (uH1 c0 c2 c5)) (u11 1 rfl rfl (u0 _) ⟨⟨rfl,u0 _,rfl,u0 _,rfl,trivial⟩,trivial⟩)
   ·have c5 : ((zU h a).kind = (zU h b).kind /\ ((zU h a).kind = 1 \/ (zU h a).kind = 5)) := by
     simp at c5;omega
    refine zM (zA ?_);rcases hr : prQ F (zU h a).items (zU h b).items (n - 1) with _ | ⟨bb,m2⟩
    ·refine zB (zE zL [1047] 800 rfl ?_);refine zF ?_;refine uH _ _ ((dJ h (n - 1) (zU h a).items (zU h b).items F (qL g a).2 hF fun m hm x hx y hy => H m om x y (qA g hva.2 om hx) (qA g hvb.2 om hy)).no (xD hr)) (FinQ.pan (xD (by rw [qW1 c0 c2 c5];exact hr))) rfl ?_;refine zf (zA ?_);exact uC 0
    ·refine zB (zE zL [1047] 800 rfl ?_);refine zF ?_;refine yQ _ _ ((dJ h (n - 1) (zU h a).items (zU h b).items F (qL g a).2 hF fun m hm x hx y hy => H m om x y (qA g hva.2 om hx) (qA g hvb.2 om hy)).yes (uL hr)) rfl ?_;refine zf (zA (zK ?_));exact FinQ.of (bb,m2) (uL (by rw [qW1 c0 c2 c5];exact hr)) (u11 1 rfl rfl (u0 _) ⟨⟨rfl,u0 _,rfl,u0 _,rfl,trivial⟩,trivial⟩)
theorem mY {h : List Ob} (hh : HpIn h) (g : Uh h) : ∀ (f n : Nat) (a b : Vl),n <= f -> n <= 10000 -> Vd h a -> Vd h b -> FnQ Tryz.prog 32 [.bp 0 0,.agg (vlD a),.agg (vlD b)] (cqO md h n) (qE (eqS h f n a b)) qB (qO md h) (.v (.bool false))
 | 0,n,a,b,h0,h1,ha,hb => by
  have e : n = 0 := by omega
  subst e;exact qH0 h 0 a b (fun _ _ _ => none) h1 hh g ha hb (fun _ _ _ _ e => by cases e) fun m hm => absurd hm om
 | f + 1,n,a,b,h0,h1,ha,hb => qH0 h n a b (eqS h f) h1 hh g ha hb (kS h f) fun m hm x y hx hy => mY hh g f m x y om om hx hy
theorem bG0 {h : List Ob} (hh : HpIn h) (g : Uh h) : ∀ (f n : Nat) (a b : Vl),n <= f -> n <= 10000 -> Vd h a -> Vd h b -> FnQ Tryz.prog 34 [.bp 0 0,.agg (vlD a),.agg (vlD b)] (cqO md h n) (qE (saS h f n a b)) qB (qO md h) (.v (.bool false))
 | 0,n,a,b,h0,h1,ha,hb => by
  have e : n = 0 := by omega
  subst e;exact vJ0 h 0 a b (fun _ _ _ => none) h1 hh g ha hb (fun _ _ _ _ e => by cases e) fun m hm => absurd hm om
 | f + 1,n,a,b,h0,h1,ha,hb => vJ0 h n a b (saS h f) h1 hh g ha hb (bI0 h f) fun m hm x y hx hy => bG0 hh g f m x y om om hx hy
def qSt : QR -> St
 | some r => vlS (boV r.1)
 | none => raS 42 pQ
theorem bN0 {q : QR} : ∀ r,qE q = .ok r -> qSt q = vlS (boV r.1) := by
 intro r h
 cases q with
 | none => cases h
 | some q => cases h;rfl
theorem bO0 {q : QR} : ∀ V,qE q = .error V -> ∃ c t,V = mR c t /\ qSt q = raS c t := by
 intro V h
 cases q with
 | none => cases h;exact ⟨42,pQ,rfl,rfl⟩
 | some q => cases h
theorem cmpEqualC_ok (h : List Ob) (a b : Vl) (hh : HpIn h) (g : Uh h) (hva : Vd h a) (hvb : Vd h b) : FnQ Tryz.prog 31 [.bp 0 0,vpD a,vpD b] (cqO md h 10000) (qE (eqS h 10000 10000 a b)) qB (qO md h) (.v (.bool false)) := by
 refine kO zL Tryz.func31 rfl rfl rfl rfl rfl rfl (fun _ => rfl) rfl ?_;intro w0 s0 mx;refine zJ 100 ?_;rcases hr : eqS h 10000 10000 a b with _ | ⟨bb,m2⟩
 ·refine zB (zE zL [1008] 200 rfl ?_);refine zF ?_;refine uH _ _ ((mY hh g 10000 10000 a b (Ak _) (Ak _) hva hvb).no (xD hr)) (FinQ.pan (xD rfl)) rfl ?_;refine zf (zA ?_);exact uC 0
 ·refine zB (zE zL [1008] 200 rfl ?_);refine zF ?_;refine yQ _ _ ((mY hh g 10000 10000 a b (Ak _) (Ak _) hva hvb).yes (uL hr)) rfl ?_;refine zf (zA (zK ?_));exact FinQ.of (bb,m2) (uL (rfl)) (u11 1 rfl rfl (u0 _) ⟨⟨rfl,u0 _,rfl,u0 _,rfl,trivial⟩,trivial⟩)
theorem cmpEqual_ok (h : List Ob) (a b : Vl) (hh : HpIn h) (g : Uh h) (hva : Vd h a) (hvb : Vd h b) : Fx 9 [hpD md h,.agg (vlD a),.agg (vlD b)] (.agg (stD (qSt (eqS h 10000 10000 a b)))) := by
 refine yD zL Tryz.func9 rfl rfl rfl rfl rfl rfl ?_;intro w0 s0 mx;refine zJ 100 ?_;refine zB (zE zL [] 200 rfl ?_);refine zF ?_;refine wH _ (jB0 h 31 de [vpD a,vpD b] rfl _ _ (cmpEqualC_ok h a b hh g hva hvb) bN0 bO0) rfl rfl ?_;refine zf (zA (zK ?_));exact u4 rfl (u6 _)
end Go.Proofs.YtinegkcbkefeiaaGreatDoor
/-
  DERIVED: THE SHELF's CONTRACTS AT THIS DUMP,IN PLAIN WORDS (tools/lay-plain.mjs out of 'YtinegkcbkefeiaaGreatDoorShelf4.lean',which tools/lay-shelf.mjs wrote): THE SAME DECLARATIONS UNDER THE SAME NAMES: 'import','namespace','open','def','theorem' AND NOTHING ELSE: no command of the shelf's: FOR A HAND-IN. Each laying: the table of numbers ('.._ren') and one theorem,a field a fact of the dump's own or the kernel's comparison;each contract: ONE APPLICATION.
-/
namespace Go.Proofs
open Go.Shelf
def Tryz.laysStrCmp_ren : Go.Shelf.Ren := ⟨fun | 106 => 99 | 213 => 164 | 265 => 211 | n => n,fun | 9 => 9 | 3 => 3 | n => n,fun | n => n⟩
theorem Tryz.laysStrCmp : Go.Proofs.Lays.n106 Tryz.prog Tryz.laysStrCmp_ren := {
 mixed := by kernel_rfl
 f106 := Tryz.func99.trans (congrArg some (by kernel_rfl))
 f213 := Tryz.func164.trans (congrArg some (by kernel_rfl))
 f265 := Tryz.func211.trans (congrArg some (by kernel_rfl))
 t3 := Tryz.underlying3
 a3 := Tryz.isAgg3
 z3 := Tryz.sizeOf3
 v3 := Tryz.zeroValue3
 t9 := Tryz.underlying9
 a9 := Tryz.isAgg9
 z9 := Tryz.sizeOf9
 v9 := Tryz.zeroValue9 }
end Go.Proofs
namespace Go.Proofs.YtinegkcbkefeiaaGreatDoor
open Go.RowKit Go.Shelf
def cmpB (a b : ByteArray) : Int := Lib.compareBytes a.data.toList b.data.toList
theorem xB0 (a b : ByteArray) : Fx 99 [.v (.string a),.v (.string b)] (.v (.int .i64 (cmpB a b))) := by
 refine jV0 ⟨_,Tryz.func99,rfl,rfl⟩ fun w s vs hg hv => ?_;rw [cC hv];refine (Any.strings_Compare Tryz.laysStrCmp a b w).mono ?_;rintro e w' ⟨rfl,rfl⟩;exact ⟨rfl,Below.refl _ _⟩
open Go.RowKit
variable {md me : Bool}
def fitO (op n : Int) : Bool := decide (n < 0) || (decide (n = 0) && decide (op = 2))
def isN (v : Vl) : Bool := decide (v.k = 2 \/ v.k = 3)
def cmpQ (n : Int) (d : Nat) (m : Int) (e : Nat) : Int := if n * e < m * d then -1 else if n * e = m * d then 0 else 1
def cmpI (a b : Int) : Int := if a < b then -1 else if b < a then 1 else 0
def oiD (op : Int) : D := .pt true [.v (.int .i64 op)]
theorem mC0 (n : Int) (e : Nat) (h : 0 <= n) : n * e = ((n.natAbs * e : Nat) : Int) := by
 rw [Int.natCast_mul,Int.natAbs_of_nonneg h]
theorem mD0 (n : Int) (e : Nat) (h : n < 0) : n * e = -((n.natAbs * e : Nat) : Int) := by
 rw [Int.natCast_mul,Int.ofNat_natAbs_of_nonpos om,Int.neg_mul,Int.neg_neg]
theorem cq_nn {n m : Int} {d e : Nat} (hn : n < 0) (hm : m < 0) : -(uE (n.natAbs * e) (m.natAbs * d)) = cmpQ n d m e := by
 unfold cmpQ uE;rw [mD0 n e hn,mD0 m d hm];generalize n.natAbs * e = x;generalize m.natAbs * d = y;split <;> (try split) <;> (try split) <;> (try split) <;> omega
theorem cq_pp {n m : Int} {d e : Nat} (hn : ¬ n < 0) (hm : ¬ m < 0) : uE (n.natAbs * e) (m.natAbs * d) = cmpQ n d m e := by
 unfold cmpQ uE;rw [mC0 n e om,mC0 m d om];generalize n.natAbs * e = x;generalize m.natAbs * d = y;split <;> (try split) <;> (try split) <;> (try split) <;> omega
theorem cq_np {n m : Int} {d e : Nat} (hn : n < 0) (hm : ¬ m < 0) (he : 0 < e) : -1 = cmpQ n d m e := by
 unfold cmpQ;rw [mD0 n e hn,mC0 m d om,Ac];have : 0 < n.natAbs * e := Nat.mul_pos om he;omega
theorem cq_pn {n m : Int} {d e : Nat} (hn : ¬ n < 0) (hm : m < 0) (hd : 0 < d) : 1 = cmpQ n d m e := by
 unfold cmpQ;have : 0 < m.natAbs * d := Nat.mul_pos om hd;rw [mC0 n e om,mD0 m d hm,Aa om,Aa om]
theorem cmpN_rng (x y : Nat) : -1 <= uE x y /\ uE x y <= 1 := by unfold uE;split <;> (try split) <;> decide
theorem wrapN {c : Int} (h : -1 <= c /\ c <= 1) : IntKind.i64.wrap (-c) = -c := by
 rcases (by omega : c = -1 \/ c = 0 \/ c = 1) with rfl | rfl | rfl <;> decide
def rqN (v : Vl) : Int := if isN v = true then Qr.nV v else 0
def rqD (v : Vl) : Nat := if isN v = true then Qr.dV v else 0
theorem rq_y {v : Vl} (h : v.k = 2 \/ v.k = 3) : rqN v = Qr.nV v /\ rqD v = Qr.dV v /\ isN v = true := by
 have hb : isN v = true := Ax h;exact ⟨Ac hb,Ac hb,hb⟩
theorem rq_n {v : Vl} (h : ¬ (v.k = 2 \/ v.k = 3)) : rqN v = 0 /\ rqD v = 0 /\ isN v = false := by
 have hb : isN v = false := By h;exact ⟨Aa (by rw [hb];decide),Aa (by rw [hb];decide),hb⟩
theorem mJ0 (n : Int) : Fx 212 [.v (.int .i64 n)] (.v (.bool false)) := by
 refine yD zL Tryz.func212 rfl rfl rfl rfl rfl rfl ?_;intro w0 s0 mx;refine zJ 100 ?_;refine zJ 200 ?_;refine zK ?_;exact u4 rfl (u7 (by simp))
theorem cmpCompare_ok (a b : Int) : Fx 165 [.v (.int .i64 a),.v (.int .i64 b)] (.v (.int .i64 (cmpI a b))) := by
 refine yD zL Tryz.func165 rfl rfl rfl rfl rfl rfl ?_;intro w0 s0 mx;refine zJ 100 ?_;refine zB (zE zL [] 200 rfl ?_);refine zF ?_;refine zO _ (mJ0 a) rfl ?_;refine zf (zA ?_);refine zB (zE zL [] 300 rfl ?_);refine zF ?_;refine zO _ (mJ0 b) rfl ?_;refine zF ?_;refine zC (zA (zB (zJ 400 ?_)));refine zX (fun c3 => ?_) (fun c3 => ?_)
 ·
  exact absurd c3 de
 ·
  refine zM (zA (zB (zJ 800 ?_)));refine zX (fun c7 => ?_) (fun c7 => ?_)
  ·
   exact absurd c7 de
  ·
   refine zM (zA (zB (zJ 1000 ?_)));refine zX (fun c9 => ?_) (fun c9 => ?_)
   ·
    refine zJ 1100 ?_;refine zK (zN ?_);exact u4 rfl (u10 (Ac c9).symm)
   ·
    refine zM (zA (zB (zJ 1200 ?_)));refine zX (fun c11 => ?_) (fun c11 => ?_)
    ·
     refine zJ 1300 ?_;refine zK (zN ?_);exact u4 rfl (u10 ((Aa (Int.not_lt.2 c9)).trans (Ac c11)).symm)
    ·
     refine zM (zA (zJ 1400 ?_));refine zK ?_;exact u4 rfl (u10 ((Aa (Int.not_lt.2 c9)).trans (Aa (Int.not_lt.2 c11))).symm)
theorem tC (v : Vl) (p : Qr.Nm v \/ ¬ (v.k = 2 \/ v.k = 3)) : Fx 97 [.agg (vlD v)] (.tup [.agg (fV (rqN v) (rqD v)),.v (.bool (isN v))]) := by
 refine yD zL Tryz.func97 rfl rfl rfl rfl rfl rfl ?_;intro w0 s0 mx;refine zJ 100 ?_;refine zB (zJ 200 ?_);refine zR (zJ 300 ?_);refine zX (fun c2 => ?_) (fun c2 => ?_)
 ·
  refine zJ 400 ?_;refine zK (zQ (zN ?_));rw [(rq_y (.inl c2)).1,(rq_y (.inl c2)).2.1,(rq_y (.inl c2)).2.2,nm_f2 (p.resolve_right fun h => h (.inl c2)) c2];exact u4 rfl (u19 ⟨u20 ⟨u6 _,u6 _,u6 _,u18 rfl,trivial⟩,u6 _,trivial⟩)
 ·
  refine zJ 500 ?_;refine zX (fun c4 => ?_) (fun c4 => ?_)
  ·
   refine zJ 600 ?_;refine zK (zQ (zN ?_));rw [(rq_y (.inr c4)).1,(rq_y (.inr c4)).2.1,(rq_y (.inr c4)).2.2];exact u4 rfl (u19 ⟨u9 (by rw [nm_f3 (p.resolve_right fun h => h (.inr c4)) c4];rfl),u6 _,trivial⟩)
  ·
   refine zM (zP (zA (zJ 700 ?_)));refine zK ?_;have hx : ¬ (v.k = 2 \/ v.k = 3) := by omega
   rw [(rq_n hx).1,(rq_n hx).2.1,(rq_n hx).2.2];exact u4 rfl (u19 ⟨fV_nil,u6 _,trivial⟩)
theorem ratCmp_ok {n m : Int} {d e : Nat} (p : Qr.Q n d) (q : Qr.Q m e) : Fx 98 [.agg (fV n d),.agg (fV m e)] (.tup [.v (.int .i64 (cmpQ n d m e)),faD 0 0]) := by
 have hn := p.nl;have hd := p.dl;have hm := q.nl;have he := q.dl;have hnm : (lim (n.natAbs * m.natAbs)).length <= 256 := pR hn hm;have hde : (lim (d * e)).length <= 256 := pR hd he;have hp0 : 0 < d * e := Nat.mul_pos p.d0 q.d0;have hne : (lim (n.natAbs * e)).length <= 256 := pR hn he;have hdm : (lim (d * m.natAbs)).length <= 256 := pR hd hm;have hmd : (lim (m.natAbs * d)).length <= 256 := pR hm hd;refine yD zL Tryz.func98 rfl rfl rfl rfl rfl rfl ?_;intro w0 s0 mx;refine zJ 100 ?_;refine zB ?_;refine zB (zE zL [] 200 rfl ?_);refine zF ?_;refine zO _ ((ratCheck_ok [(n,d),(m,e)] (ratCheck2 p q) (by show 2 <= 100;omega)).args ⟨u18 rfl,trivial⟩) rfl ?_;refine zF ?_;refine zC (zA (zJ 300 ?_));refine zX (fun c2 => ?_) (fun c2 => ?_)
 ·
  exact absurd c2 de
 ·
  refine zM (zA ?_);refine zB (zE zL [] 500 rfl ?_);refine zF ?_;refine zO _ (cY n.natAbs e om om om) rfl ?_;refine zf (zA ?_);refine zB (zE zL [] 600 rfl ?_);refine zF ?_;refine zO _ (cY m.natAbs d om om om) rfl ?_;refine zf (zA ?_);refine zB (zE zL [] 700 rfl ?_);refine zF ?_;refine zO _ (cZ (n.natAbs * e) (m.natAbs * d) om om) rfl ?_;refine zF ?_;refine zC (zA (zB (zR (zJ 800 ?_))));refine zT rfl (fun c7 => ?_) (fun c7 => ?_)
  ·have c7 : n < 0 /\ m < 0 := by simpa using c7
   refine zJ 900 ?_;refine zK (zQ (zN ?_));exact u4 rfl (u19 ⟨u10 (by rw [<- cq_nn c7.1 c7.2,Int.zero_sub];exact wrapN (cmpN_rng _ _)),u6 _,trivial⟩)
  ·have c7 : ¬ (n < 0 /\ m < 0) := by simpa using c7
   refine zJ 1000 ?_;refine zT rfl (fun c9 => ?_) (fun c9 => ?_)
   ·have c9 : n < 0 := by simpa using c9
    refine zJ 1100 ?_;refine zK (zQ (zN ?_));exact u4 rfl (u19 ⟨u10 (cq_np c9 (fun h => c7 ⟨c9,h⟩) q.d0),u6 _,trivial⟩)
   ·have c9 : ¬ n < 0 := by simpa using c9
    refine zJ 1200 ?_;refine zT rfl (fun c11 => ?_) (fun c11 => ?_)
    ·have c11 : m < 0 := by simpa using c11
     refine zJ 1300 ?_;refine zK (zQ (zN ?_));exact u4 rfl (u19 ⟨u10 (cq_pn c9 c11 p.d0),u6 _,trivial⟩)
    ·have c11 : ¬ m < 0 := by simpa using c11
     refine zM (zP (zA (zJ 1400 ?_)));refine zK ?_;exact u4 rfl (u19 ⟨u10 (cq_pp c9 c11),u6 _,trivial⟩)
theorem tR0 (op n : Int) : Fx 96 [.v (.int .i64 n),oiD op] (.v (.bool (fitO op n))) := by
 refine yD zL Tryz.func96 rfl rfl rfl rfl rfl rfl ?_;intro w0 s0 mx;refine zJ 100 ?_;refine zJ 200 ?_;refine zK ?_;exact u4 rfl (u7 (by unfold fitO;simp))
variable {md me : Bool}
abbrev LR := Except (Int × ByteArray) (Bool × Nat)
def lE : LR -> Except Value (Bool × Nat)
 | .ok r => .ok r
 | .error e => .error (mR e.1 e.2)
def liP (F : Nat -> Vl -> Vl -> QR) (G : Nat -> Vl -> Vl -> LR) (z : Bool) : List (Vl × Vl) -> Nat -> LR
 | [],n => .ok (z,n)
 | x :: l,n => match F n x.1 x.2 with
  | none => .error (42,pQ)
  | some r => if r.1 = true then liP F G z l r.2 else G r.2 x.1 x.2
def zpL (a b : List Vl) : List (Vl × Vl) := (List.range (min a.length b.length)).map fun i => (a.getD i vl0,b.getD i vl0)
def liQ (F : Nat -> Vl -> Vl -> QR) (G : Nat -> Vl -> Vl -> LR) (op : Int) (a b : List Vl) (n : Nat) : LR := liP F G (fitO op (cmpI a.length b.length)) (zpL a b) n
theorem kC (a b : List Vl) : (zpL a b).length = min a.length b.length := by simp [zpL]
theorem wV (a b : List Vl) {k : Nat} (h : k < min a.length b.length) : (zpL a b)[k]? = some (a.getD k vl0,b.getD k vl0) := by simp [zpL,h]
structure Li (F : Nat -> Vl -> Vl -> QR) (G : Nat -> Vl -> Vl -> LR) (z : Bool) (l : List (Vl × Vl)) (n : Nat) where
 k : Nat
 m : Nat
 le : k <= l.length
 hm : m <= n
 eq : liP F G z (l.drop k) m = liP F G z l n
section
variable {F : Nat -> Vl -> Vl -> QR} {G : Nat -> Vl -> Vl -> LR} {z : Bool} {l : List (Vl × Vl)} {n : Nat}
theorem Li.at (x : Li F G z l n) {v w : Vl} (hg : l[x.k]? = some (v,w)) : liP F G z l n = liP F G z ((v,w) :: l.drop (x.k + 1)) x.m := by
 rw [<- x.eq,Bw (Ad.1 hg).1,(Ad.1 hg).2]
theorem Li.pan (x : Li F G z l n) {v w : Vl} (hg : l[x.k]? = some (v,w)) (hr : F x.m v w = none) : liP F G z l n = .error (42,pQ) := by
 rw [x.at hg];simp only [liP,hr]
theorem Li.no (x : Li F G z l n) {v w : Vl} (hg : l[x.k]? = some (v,w)) {m2 : Nat} (hr : F x.m v w = some (false,m2)) : liP F G z l n = G m2 v w := by
 rw [x.at hg];simp only [liP,hr];rfl
def Li.next (x : Li F G z l n) (hF : LeQ F) {v w : Vl} (hg : l[x.k]? = some (v,w)) {m2 : Nat} (hr : F x.m v w = some (true,m2)) : Li F G z l n :=
 ⟨x.k + 1,m2,(Ad.1 hg).1,by have := hF _ _ _ _ hr;have := x.hm;simp only at *;omega,by rw [x.at hg];simp only [liP,hr];rfl⟩
theorem Li.fin (x : Li F G z l n) (h : ¬ x.k < l.length) : liP F G z l n = .ok (z,x.m) := by
 rw [<- x.eq,Ay om];rfl
end
theorem tK {r : LR} {a : Bool × Nat} (h : r = .ok a) : lE r = .ok a := by rw [h];rfl
theorem tL {r : LR} {e : Int × ByteArray} (h : r = .error e) : lE r = .error (mR e.1 e.2) := by rw [h];rfl
def loT (h : List Ob) (a b : Vl) : ByteArray := (((⟨#[99,97,110,110,111,116,32,111,114,100,101,114,32,39]⟩ ++ (yJ h (clA h a)).name) ++ ⟨#[39,32,97,110,100,32,39]⟩) ++ (yJ h (clA h b)).name) ++ ⟨#[39]⟩
def leP (F : Nat -> Vl -> Vl -> QR) (G : Nat -> Vl -> Vl -> LR) (h : List Ob) (op : Int) (n : Nat) (a b : Vl) : LR :=
 if n = 0 then .error (42,pQ)
 else if isN a = true /\ isN b = true then .ok (fitO op (cmpQ (rqN a) (rqD a) (rqN b) (rqD b)),n - 1)
 else if a.k = b.k /\ (a.k = 4 \/ a.k = 5) then .ok (fitO op (cmpB a.s b.s),n - 1)
 else if (zU h a).kind = (zU h b).kind /\ ((zU h a).kind = 1 \/ (zU h a).kind = 2) then liQ F G op (zU h a).items (zU h b).items (n - 1)
 else if (zU h a).kind = (zU h b).kind /\ (zU h a).kind = 4 then .ok (wiB h (zU h a).keys (zU h b).keys && (decide (op = 2) || decide ((zU h a).keys.length < (zU h b).keys.length)),n - 1)
 else .error (32,loT h a b)
def leS (h : List Ob) (op : Int) : Nat -> Nat -> Vl -> Vl -> LR
 | 0 => fun _ _ _ => .error (42,pQ)
 | f + 1 => fun n a b => leP (eqS h 10000) (leS h op f) h op n a b
section
variable {F : Nat -> Vl -> Vl -> QR} {G : Nat -> Vl -> Vl -> LR} {h : List Ob} {op : Int} {n : Nat} {a b : Vl}
theorem uW1 (h0 : n = 0) : leP F G h op n a b = .error (42,pQ) := Ac h0
theorem uV1 (h0 : ¬ n = 0) (h1 : isN a = true /\ isN b = true) : leP F G h op n a b = .ok (fitO op (cmpQ (rqN a) (rqD a) (rqN b) (rqD b)),n - 1) := (Aa h0).trans (Ac h1)
theorem uT1 (h0 : ¬ n = 0) (h1 : ¬ (isN a = true /\ isN b = true)) (h2 : a.k = b.k /\ (a.k = 4 \/ a.k = 5)) : leP F G h op n a b = .ok (fitO op (cmpB a.s b.s),n - 1) := (Aa h0).trans ((Aa h1).trans (Ac h2))
theorem yJ0 (h0 : ¬ n = 0) (h1 : ¬ (isN a = true /\ isN b = true)) (h2 : ¬ (a.k = b.k /\ (a.k = 4 \/ a.k = 5))) (h3 : (zU h a).kind = (zU h b).kind /\ ((zU h a).kind = 1 \/ (zU h a).kind = 2)) : leP F G h op n a b = liQ F G op (zU h a).items (zU h b).items (n - 1) := (Aa h0).trans ((Aa h1).trans ((Aa h2).trans (Ac h3)))
theorem uU1 (h0 : ¬ n = 0) (h1 : ¬ (isN a = true /\ isN b = true)) (h2 : ¬ (a.k = b.k /\ (a.k = 4 \/ a.k = 5))) (h3 : (zU h a).kind = (zU h b).kind /\ (zU h a).kind = 4) : leP F G h op n a b = .ok (wiB h (zU h a).keys (zU h b).keys && (decide (op = 2) || decide ((zU h a).keys.length < (zU h b).keys.length)),n - 1) := (Aa h0).trans ((Aa h1).trans ((Aa h2).trans ((Aa om).trans (Ac h3))))
theorem zQ1 (h0 : ¬ n = 0) (h1 : ¬ (isN a = true /\ isN b = true)) (h2 : ¬ (a.k = b.k /\ (a.k = 4 \/ a.k = 5))) (h3 : ¬ ((zU h a).kind = (zU h b).kind /\ ((zU h a).kind = 1 \/ (zU h a).kind = 2))) (h4 : ¬ ((zU h a).kind = (zU h b).kind /\ (zU h a).kind = 4)) : leP F G h op n a b = .error (32,loT h a b) := (Aa h0).trans ((Aa h1).trans ((Aa h2).trans ((Aa h3).trans (Aa h4))))
end
theorem gT {h : List Ob} (hh : HpIn h) {v x : Vl} (hx : x ∈ (zU h v).items) : VlIn x := by
 by_cases h0 : (zU h v) = ob0
 ·rw [h0] at hx;exact absurd hx (by show ¬ x ∈ ([] : List Vl);simp)
 ·unfold zU at hx h0;split at hx
  ·exact (hh.at v.r).iv x hx
  ·exact absurd hx (by show ¬ x ∈ ([] : List Vl);simp)
theorem zN1 {v : Vl} (hv : qY v = true) (hi : VlIn v) : Qr.Nm v \/ ¬ (v.k = 2 \/ v.k = 3) := by
 by_cases hk : v.k = 2 \/ v.k = 3
 ·exact .inl (Qr.nm_of hi.nl hi.dl hk hv)
 ·exact .inr hk
theorem rq_Q {v : Vl} (p : Qr.Nm v \/ ¬ (v.k = 2 \/ v.k = 3)) (h : isN v = true) : Qr.Q (rqN v) (rqD v) := by
 have hk : v.k = 2 \/ v.k = 3 := Ag h;rw [(rq_y hk).1,(rq_y hk).2.1];exact (p.resolve_right fun x => x hk).q
set_option maxHeartbeats 1000000 in
theorem tU (h : List Ob) (op : Int) (n : Nat) (a b : List Vl) (F : Nat -> Vl -> Vl -> QR) (G : Nat -> Vl -> Vl -> LR) (ha : a.length <= 1000) (hb : b.length <= 1000) (hF : LeQ F) (HE : ∀ m,m <= n -> ∀ x ∈ a,∀ y ∈ b,FnQ Tryz.prog 32 [.bp 0 0,.agg (vlD x),.agg (vlD y)] (cqO md h m) (qE (F m x y)) qB (qO md h) (.v (.bool false))) (HG : ∀ m,m <= n -> ∀ x ∈ a,∀ y ∈ b,FnQ Tryz.prog 39 [.bp 0 0,.v (.int .i64 op),.agg (vlD x),.agg (vlD y)] (cqO md h m) (lE (G m x y)) qB (qO md h) (.v (.bool false))) : FnQ Tryz.prog 100 [.bp 0 0,.v (.int .i64 op),vsD a,vsD b] (cqO md h n) (lE (liQ F G op a b n)) qB (qO md h) (.v (.bool false)) := by
 refine kO zL Tryz.func100 rfl rfl rfl rfl rfl rfl (fun _ => rfl) rfl ?_;intro w0 s0 mx;refine zJ 100 ?_;refine zB (zJ 200 ?_);refine zR ?_;refine yC (ι := Li F G (fitO op (cmpI a.length b.length)) (zpL a b) n) [0,1,2,3,15] [] 250 (fun x => [(16,.v (.int .i64 x.k))]) (fun x => [(0,.box 111 [.sl md 10 h obD ob0,.v (.int .i64 x.m)])]) (fun x => min a.length b.length - x.k) ⟨0,n,Ap _,Ak _,rfl⟩ ?_;refine ⟨⟨yK,⟨⟨rfl,u0 _,rfl,u21 rfl,rfl,trivial⟩,yH⟩,rfl,rfl⟩,fun x => ?_⟩;have hxl := x.le;rw [kC] at hxl;refine zJ 300 ?_;refine zB (zT rfl (fun c2 => ?_) (fun c2 => ?_))
 ·have c2 : x.k < a.length /\ x.k < b.length := by
   have h9 := c2;simp at h9;split at h9 <;> omega
  refine zM (zA (zB (zR (zJ 400 ?_))));rcases hr : F x.m (a.getD x.k vl0) (b.getD x.k vl0) with _ | ⟨bb,m2⟩
  ·refine zB (zW zL [1028] mK5 500 yP kr rfl ?_);refine zF ?_;refine uH _ _ ((HE x.m x.hm _ (by rw [yS om];exact Ar _) _ (by rw [yS om];exact Ar _)).no (xD hr)) (FinQ.pan (tL (x.pan (wV a b om) hr))) rfl ?_;refine zf (zA ?_);exact uC 0
  ·refine zB (zW zL [1028] mK5 500 yP kr rfl ?_);refine zF ?_;refine yQ _ _ ((HE x.m x.hm _ (by rw [yS om];exact Ar _) _ (by rw [yS om];exact Ar _)).yes (uL hr)) rfl ?_;refine zF ?_;refine zC (zA (zT rfl (fun c4 => ?_) (fun c4 => ?_)))
   ·have c4 : bb = false := by simpa [qB] using c4
    subst c4;rcases hl : G m2 (a.getD x.k vl0) (b.getD x.k vl0) with e | ⟨b2,m3⟩
    ·refine zB (zW zL [1040] mK15 600 yP kr rfl ?_);refine zF ?_;refine uH _ _ ((HG m2 (by have h9 := hF _ _ _ _ hr;have := x.hm;simp only at h9;omega) _ (by rw [yS om];exact Ar _) _ (by rw [yS om];exact Ar _)).no (tL hl)) (FinQ.pan (tL ((x.no (wV a b om) hr).trans hl))) rfl ?_;refine zf (zA ?_);exact uC 0
    ·refine zB (zW zL [1040] mK15 600 yP kr rfl ?_);refine zF ?_;refine yQ _ _ ((HG m2 (by have h9 := hF _ _ _ _ hr;have := x.hm;simp only at h9;omega) _ (by rw [yS om];exact Ar _) _ (by rw [yS om];exact Ar _)).yes (tK hl)) rfl ?_;refine zf (zA (zK (zQ (zN (yL (zQ (zN ?_)))))));exact FinQ.of (b2,m3) (tK ((x.no (wV a b om) hr).trans hl)) (u11 1 rfl rfl (u0 _) ⟨⟨rfl,u0 _,rfl,u0 _,rfl,trivial⟩,trivial⟩)
   ·have c4 : bb = true := by simpa [qB] using c4
    subst c4;refine zM (zP (zA (yM zL [] 700 ?_)));exact zS (x.next hF (wV a b om) hr) ⟨⟨u21 (by show (x.k : Int) + 1 = ((x.k + 1 : Nat) : Int);push_cast;rfl),yK⟩,⟨⟨rfl,u0 _,rfl,u21 rfl,rfl,trivial⟩,yH⟩,rfl,rfl⟩ (by show min a.length b.length - (x.k + 1) < min a.length b.length - x.k;omega)
 ·have c2 : ¬ x.k < min a.length b.length := by
   have h9 := c2;simp at h9;split at h9 <;> omega
  refine yE (yA (yB (zZ (zA ?_))));refine zB (zE zL [] 800 rfl ?_);refine zF ?_;refine zO _ (cmpCompare_ok _ _) rfl ?_;refine zF ?_;refine zC (zA (zJ 900 ?_));refine zK ?_;exact FinQ.of ((fitO op (cmpI a.length b.length)),x.m) (tK (x.fin (by rw [kC];exact c2))) (u11 1 rfl rfl (Sub.bool (by unfold fitO;simp)) ⟨⟨rfl,u0 _,rfl,u0 _,rfl,trivial⟩,trivial⟩)
theorem yI0 {P : Program} {E : Pn} {K : DS -> Prop} {p : Prop} {r : Out} (hr : r.sat P E K) (hp : p := by first | (simp only [ByteArray.size_append,kbsz,Cg,Aq,Be];omega) | exact Eh) : (Out.need p r).sat P E K := ⟨hp,hr⟩
set_option maxHeartbeats 4000000 in
theorem wA0 (h : List Ob) (op : Int) (n : Nat) (a b : Vl) (G : Nat -> Vl -> Vl -> LR) (hn : n <= 10000) (hh : HpIn h) (g : Uh h) (hva : Vd h a) (hvb : Vd h b) (hia : VlIn a) (hib : VlIn b) (H : ∀ m,m < n -> ∀ x y,Vd h x -> Vd h y -> VlIn x -> VlIn y -> FnQ Tryz.prog 39 [.bp 0 0,.v (.int .i64 op),.agg (vlD x),.agg (vlD y)] (cqO md h m) (lE (G m x y)) qB (qO md h) (.v (.bool false))) : FnQ Tryz.prog 39 [.bp 0 0,.v (.int .i64 op),.agg (vlD a),.agg (vlD b)] (cqO md h n) (lE (leP (eqS h 10000) G h op n a b)) qB (qO md h) (.v (.bool false)) := by
 have pa := zN1 hva.1 hia;have pb := zN1 hvb.1 hib;have hna := (hh.at (clA h a)).nm;have hnb := (hh.at (clA h b)).nm;refine kO zL Tryz.func39 rfl rfl rfl rfl rfl rfl (fun _ => rfl) rfl ?_;intro w0 s0 mx;refine zJ 100 ?_;by_cases c0 : n = 0
 ·refine zB (zE zL [1019] 200 rfl ?_);refine zF ?_;refine uH _ _ ((dY h n hn).no (Ac c0)) (FinQ.pan (tL (uW1 c0))) rfl ?_;refine zf (zA ?_);exact uC 0
 ·refine zB (zE zL [1019] 200 rfl ?_);refine zF ?_;refine yQ _ _ ((dY h n hn).yes (Aa c0)) rfl ?_;refine zF ?_;refine zC (zA (zJ 300 ?_));refine zB (zE zL [] 400 rfl ?_);refine zF ?_;refine zO _ (tC a pa) rfl ?_;refine zf (zA ?_);refine zB (zE zL [] 500 rfl ?_);refine zF ?_;refine zO _ (tC b pb) rfl ?_;refine zF ?_;refine zC (zA (zB (zJ 600 ?_)));refine zT rfl (fun c5 => ?_) (fun c5 => ?_)
  ·have c5 : isN a = true /\ isN b = true := by simpa using c5
   refine zB (zE zL [] 700 rfl ?_);refine zF ?_;refine zO _ (ratCmp_ok (rq_Q pa c5.1) (rq_Q pb c5.2)) rfl ?_;refine zf (zA ?_);refine zB (zE zL [] 800 rfl ?_);refine zF ?_;refine wH _ (tR0 op _) rfl rfl ?_;refine zf (zA (zK (zN ?_)));exact FinQ.of (fitO op (cmpQ (rqN a) (rqD a) (rqN b) (rqD b)),n - 1) (tK (uV1 c0 c5)) (u11 1 rfl rfl (u0 _) ⟨⟨rfl,u0 _,rfl,u0 _,rfl,trivial⟩,trivial⟩)
  ·have c5 : ¬ (isN a = true /\ isN b = true) := by simpa using c5
   refine zM (zA (zB (zJ 900 ?_)));refine zT rfl (fun c8 => ?_) (fun c8 => ?_)
   ·have c8 : a.k = b.k /\ (a.k = 4 \/ a.k = 5) := by
     have h9 := c8;simp at h9;omega
    refine zB (zE zL [] 1000 rfl ?_);refine zF ?_;refine zO _ (xB0 a.s b.s) rfl ?_;refine zF ?_;refine wH _ (tR0 op _) rfl rfl ?_;refine zf (zA (zK (zN ?_)));exact FinQ.of (fitO op (cmpB a.s b.s),n - 1) (tK (uT1 c0 c5 c8)) (u11 1 rfl rfl (u0 _) ⟨⟨rfl,u0 _,rfl,u0 _,rfl,trivial⟩,trivial⟩)
   ·have c8 : ¬ (a.k = b.k /\ (a.k = 4 \/ a.k = 5)) := by
     intro h8;have h9 := c8;simp at h9;omega
    refine zM (zA ?_);refine zB (zW zL [] mK2 1100 yP kr rfl ?_);refine zF ?_;refine zO _ (uV h a hva.2) rfl ?_;refine zF ?_;refine zO _ (uV h b hvb.2) rfl ?_;refine zF ?_;refine zC (zA (zB (zJ 1200 ?_)));refine zX (fun c11 => ?_) (fun c11 => ?_)
    ·
     refine zJ 1300 ?_;refine zR (zB (zJ 1400 ?_));refine zX (fun c13 => ?_) (fun c13 => ?_)
     ·
      refine zM (zA (zX (fun c13x => ?_) (fun c13x => ?_)))
      ·
       rcases hr : liQ (eqS h 10000) G op (zU h a).items (zU h b).items (n - 1) with e | ⟨bb,m2⟩
       ·refine zB (zE zL [1094] 1600 rfl ?_);refine zF ?_;refine uH _ _ ((tU h op (n - 1) (zU h a).items (zU h b).items (eqS h 10000) G (qL g a).2 (qL g b).2 (kS h 10000) (fun m hm x hx y hy => mY hh g 10000 m x y om om (qA g hva.2 om hx) (qA g hvb.2 om hy)) fun m hm x hx y hy => H m om x y (qA g hva.2 om hx) (qA g hvb.2 om hy) (gT hh hx) (gT hh hy)).no (tL hr)) (FinQ.pan (tL ((yJ0 c0 c5 c8 om).trans hr))) rfl ?_;refine zf (zA ?_);exact uC 0
       ·refine zB (zE zL [1094] 1600 rfl ?_);refine zF ?_;refine yQ _ _ ((tU h op (n - 1) (zU h a).items (zU h b).items (eqS h 10000) G (qL g a).2 (qL g b).2 (kS h 10000) (fun m hm x hx y hy => mY hh g 10000 m x y om om (qA g hva.2 om hx) (qA g hvb.2 om hy)) fun m hm x hx y hy => H m om x y (qA g hva.2 om hx) (qA g hvb.2 om hy) (gT hh hx) (gT hh hy)).yes (tK hr)) rfl ?_;refine zf (zA (zK (zQ (zN ?_))));exact FinQ.of (bb,m2) (tK ((yJ0 c0 c5 c8 om).trans hr)) (u11 1 rfl rfl (u0 _) ⟨⟨rfl,u0 _,rfl,u0 _,rfl,trivial⟩,trivial⟩)
      ·
       simp_all
     ·
      refine yM zL [] 1500 ?_;refine zA (zX (fun c14 => ?_) (fun c14 => ?_))
      ·
       rcases hr : liQ (eqS h 10000) G op (zU h a).items (zU h b).items (n - 1) with e | ⟨bb,m2⟩
       ·refine zB (zE zL [1094] 1600 rfl ?_);refine zF ?_;refine uH _ _ ((tU h op (n - 1) (zU h a).items (zU h b).items (eqS h 10000) G (qL g a).2 (qL g b).2 (kS h 10000) (fun m hm x hx y hy => mY hh g 10000 m x y om om (qA g hva.2 om hx) (qA g hvb.2 om hy)) fun m hm x hx y hy => H m om x y (qA g hva.2 om hx) (qA g hvb.2 om hy) (gT hh hx) (gT hh hy)).no (tL hr)) (FinQ.pan (tL ((yJ0 c0 c5 c8 om).trans hr))) rfl ?_;refine zf (zA ?_);exact uC 0
       ·refine zB (zE zL [1094] 1600 rfl ?_);refine zF ?_;refine yQ _ _ ((tU h op (n - 1) (zU h a).items (zU h b).items (eqS h 10000) G (qL g a).2 (qL g b).2 (kS h 10000) (fun m hm x hx y hy => mY hh g 10000 m x y om om (qA g hva.2 om hx) (qA g hvb.2 om hy)) fun m hm x hx y hy => H m om x y (qA g hva.2 om hx) (qA g hvb.2 om hy) (gT hh hx) (gT hh hy)).yes (tK hr)) rfl ?_;refine zf (zA (zK (zQ (zN ?_))));exact FinQ.of (bb,m2) (tK ((yJ0 c0 c5 c8 om).trans hr)) (u11 1 rfl rfl (u0 _) ⟨⟨rfl,u0 _,rfl,u0 _,rfl,trivial⟩,trivial⟩)
      ·
       refine zJ 1700 ?_;refine zX (fun c16 => ?_) (fun c16 => ?_)
       ·
        refine zB (zE zL [] 1800 rfl ?_);refine zF ?_;refine wH _ (yO0 h (n - 1) (zU h a) (zU h b) hh g (mJ g hvb.2 (.inr om)).vd (fun k hk => ⟨(mJ g hva.2 (.inr om)).keyed k hk,(mJ g hva.2 (.inr om)).vd k hk⟩)) rfl rfl ?_;refine zf (zA (zK (zQ (zN ?_))));exact FinQ.of (wiB h (zU h a).keys (zU h b).keys && (decide (op = 2) || decide ((zU h a).keys.length < (zU h b).keys.length)),n - 1) (tK (uU1 c0 c5 c8 om)) (u11 1 rfl rfl (Sub.bool (by rw [Co];simp)) ⟨⟨rfl,u0 _,rfl,u0 _,rfl,trivial⟩,trivial⟩)
       ·
        refine zM (zP (zA ?_));refine zW zL [] mK16 1900 yP kr rfl ?_;repeat (first | refine zH ?_ | refine yI0 ?_)
        refine zO _ (gH h a g (tM g (gQ hva))) rfl ?_;repeat (first | refine zH ?_ | refine yI0 ?_)
        refine zO _ (gH h b g (tM g (gQ hvb))) rfl ?_;repeat (first | refine zH ?_ | refine yI0 ?_)
        refine zO _ (kT _ _) rfl ?_;repeat (first | refine zH ?_ | refine yI0 ?_)
        refine xP0 (FinQ.pan (tL (zQ1 c0 c5 c8 om om)) _ rfl) ?_;repeat (first | refine zH ?_ | refine yI0 ?_)
        refine zC ?_;exact .inr (.inl ⟨1719,rfl⟩)
    ·
     refine zM (zA ?_);refine zW zL [] mK16 1900 yP kr rfl ?_;repeat (first | refine zH ?_ | refine yI0 ?_)
     refine zO _ (gH h a g (tM g (gQ hva))) rfl ?_;repeat (first | refine zH ?_ | refine yI0 ?_)
     refine zO _ (gH h b g (tM g (gQ hvb))) rfl ?_;repeat (first | refine zH ?_ | refine yI0 ?_)
     refine zO _ (kT _ _) rfl ?_;repeat (first | refine zH ?_ | refine yI0 ?_)
     refine xP0 (FinQ.pan (tL (zQ1 c0 c5 c8 om om)) _ rfl) ?_;repeat (first | refine zH ?_ | refine yI0 ?_)
     refine zC ?_;exact .inr (.inl ⟨1219,rfl⟩)
theorem tE0 {h : List Ob} (hh : HpIn h) (g : Uh h) (op : Int) : ∀ (f n : Nat) (a b : Vl),n <= f -> n <= 10000 -> Vd h a -> Vd h b -> VlIn a -> VlIn b -> FnQ Tryz.prog 39 [.bp 0 0,.v (.int .i64 op),.agg (vlD a),.agg (vlD b)] (cqO md h n) (lE (leS h op f n a b)) qB (qO md h) (.v (.bool false))
 | 0,n,a,b,h0,h1,ha,hb,ia,ib => by
  have e : n = 0 := by omega
  subst e;exact wA0 h op 0 a b (fun _ _ _ => .error (42,pQ)) h1 hh g ha hb ia ib fun m hm => absurd hm om
 | f + 1,n,a,b,h0,h1,ha,hb,ia,ib => wA0 h op n a b (leS h op f) h1 hh g ha hb ia ib fun m hm x y hx hy jx jy => tE0 hh g op f m x y om om hx hy jx jy
def lSt : LR -> St
 | .ok r => vlS (boV r.1)
 | .error e => raS e.1 e.2
theorem lSt_ok {q : LR} : ∀ r,lE q = .ok r -> lSt q = vlS (boV r.1) := by
 intro r h
 cases q with
 | error e => cases h
 | ok q => cases h;rfl
theorem lSt_no {q : LR} : ∀ V,lE q = .error V -> ∃ c t,V = mR c t /\ lSt q = raS c t := by
 intro V h
 cases q with
 | error e => cases h;exact ⟨e.1,e.2,rfl,rfl⟩
 | ok q => cases h
theorem cmpLessC_ok (h : List Ob) (op : Int) (a b : Vl) (hh : HpIn h) (g : Uh h) (hva : Vd h a) (hvb : Vd h b) (hia : VlIn a) (hib : VlIn b) : FnQ Tryz.prog 38 [.bp 0 0,oiD op,vpD a,vpD b] (cqO md h 10000) (lE (leS h op 10000 10000 a b)) qB (qO md h) (.v (.bool false)) := by
 refine kO zL Tryz.func38 rfl rfl rfl rfl rfl rfl (fun _ => rfl) rfl ?_;intro w0 s0 mx;refine zJ 100 ?_;rcases hr : leS h op 10000 10000 a b with e | ⟨bb,m2⟩
 ·refine zB (zE zL [1010] 200 rfl ?_);refine zF ?_;refine uH _ _ ((tE0 hh g op 10000 10000 a b (Ak _) (Ak _) hva hvb hia hib).no (tL hr)) (FinQ.pan (tL rfl)) rfl ?_;refine zf (zA ?_);exact uC 0
 ·refine zB (zE zL [1010] 200 rfl ?_);refine zF ?_;refine yQ _ _ ((tE0 hh g op 10000 10000 a b (Ak _) (Ak _) hva hvb hia hib).yes (tK hr)) rfl ?_;refine zf (zA (zK ?_));exact FinQ.of (bb,m2) (tK (rfl)) (u11 1 rfl rfl (u0 _) ⟨⟨rfl,u0 _,rfl,u0 _,rfl,trivial⟩,trivial⟩)
theorem qK0 (h : List Ob) (op : Int) (a b : Vl) (hh : HpIn h) (g : Uh h) (hva : Vd h a) (hvb : Vd h b) (hia : VlIn a) (hib : VlIn b) : Fx 14 [hpD md h,.v (.int .i64 op),.agg (vlD a),.agg (vlD b)] (.agg (stD (lSt (leS h op 10000 10000 a b)))) := by
 refine yD zL Tryz.func14 rfl rfl rfl rfl rfl rfl ?_;intro w0 s0 mx;refine zJ 100 ?_;refine zB (zE zL [] 200 rfl ?_);refine zF ?_;refine wH _ (jB0 h 38 de [oiD op,vpD a,vpD b] rfl _ _ (cmpLessC_ok h op a b hh g hva hvb hia hib) lSt_ok lSt_no) rfl rfl ?_;refine zf (zA (zK ?_));exact u4 rfl (u6 _)
variable {md me : Bool}
def jO (md : Bool) (h : List Ob) (n : Int) : DOwn := .box 128 [.sl md 10 h obD ob0,.v (.int .i64 n)]
def jD (md : Bool) (h : List Ob) (n : Int) : D := .pt true [.sl md 10 h obD ob0,.v (.int .i64 n)]
def vd0 (b : Bool) (s : St) : D := .agg (.v (.bool b) :: stD s)
def qT : QR -> Bool
 | some r => r.1
 | none => false
def qS : QR -> St
 | some _ => st0
 | none => raS 42 pQ
def jl : QR -> Int
 | some r => (r.2 : Nat)
 | none => -1
def vdD (q : QR) : D := vd0 (qT q) (qS q)
def zsL : List D := [.v (.int .i64 0),.v (.int .i64 0),.v (.bool false),.v (.slice none 0 0),.v (.bool false),.v (.slice none 0 0),.v (.string ByteArray.empty),.v (.int .i64 0),.v (.int .i64 0),.v (.string ByteArray.empty),.v (.int .i64 0),.v (.bool false),.v (.slice none 0 0),.v (.bool false),.v (.slice none 0 0),.v (.string ByteArray.empty),.v (.int .i64 0),.v (.slice none 0 0)]
theorem qT_y {q : QR} (h : qT q = true) : ∃ m,q = some (true,m) := by
 cases q with
 | none => cases h
 | some r => obtain ⟨b,m⟩ := r;have h : b = true := h;rw [h];exact ⟨m,rfl⟩
theorem qT_n {q : QR} (h : qT q = false) : q = none \/ ∃ m,q = some (false,m) := by
 cases q with
 | none => exact .inl rfl
 | some r => obtain ⟨b,m⟩ := r;have h : b = false := h;rw [h];exact .inr ⟨m,rfl⟩
theorem Lq.bad {F : Nat -> Vl -> Vl -> QR} {l : List (Vl × Option Vl)} {n : Nat} (x : Lq F l n) {v w : Vl} (hg : l[x.k]? = some (v,some w)) (h : qT (F x.m v w) = false) : lsQ F l n = F x.m v w := by
 rcases qT_n h with e | ⟨m,e⟩
 ·rw [e];exact x.pan hg e
 ·rw [e];exact x.no hg e
theorem cN (h : List Ob) (n : Nat) (hn : n = 0) : FnG Tryz.prog 102 [.bp 0 0] [jO md h (n : Nat)] (.tpo [vd0 false (raS 42 pQ),.v (.bool true)]) [jO md h (-1)] := by
 refine gX zL Tryz.func102 rfl rfl rfl rfl rfl rfl rfl ?_;intro w0 s0 mx;refine zJ 100 ?_;refine zJ 200 ?_;refine zB (zJ 300 ?_);refine zT rfl (fun c2 => ?_) (fun c2 => ?_)
 ·have c2 : n = 0 := by have h9 := c2;simp at h9;omega
  refine zB (zE zL [] 400 rfl ?_);refine zF ?_;refine zO _ (uQ0 _ _) rfl ?_;refine zf (zA (zK (zN ?_)));exact u11 1 rfl rfl (u0 _) ⟨⟨rfl,u0 _,rfl,u21 om,rfl,trivial⟩,trivial⟩
 ·have c2 : ¬ n = 0 := by have h9 := c2;simp at h9;omega
  exact absurd hn c2
theorem cM (h : List Ob) (n : Nat) (hn : ¬ n = 0) (hl : n <= 10000) : FnG Tryz.prog 102 [.bp 0 0] [jO md h (n : Nat)] (.tpo [.agg (.v (.bool false) :: zsL),.v (.bool false)]) [jO md h ((n - 1 : Nat) : Int)] := by
 refine gX zL Tryz.func102 rfl rfl rfl rfl rfl rfl rfl ?_;intro w0 s0 mx;refine zJ 100 ?_;refine zJ 200 ?_;refine zB (zJ 300 ?_);refine zT rfl (fun c2 => ?_) (fun c2 => ?_)
 ·have c2 : n = 0 := by have h9 := c2;simp at h9;omega
  exact absurd c2 hn
 ·have c2 : ¬ n = 0 := by have h9 := c2;simp at h9;omega
  refine zM (zA (zJ 500 ?_));refine zK ?_;exact u11 1 rfl rfl (u0 _) ⟨⟨rfl,u0 _,rfl,u21 om,rfl,trivial⟩,trivial⟩
theorem yP0 (h : List Ob) (n : Int) (p q : Ob) (hh : HpIn h) (kp : Kd h p.keys) (kq : Kd h q.keys) (hl : p.keys.length <= 1000) : Fx 105 [jD md h n,.agg (obD p),.agg (obD q)] (.v (.bool (wiB h p.keys q.keys))) := by
 refine yD zL Tryz.func105 rfl rfl rfl rfl rfl rfl ?_;intro w0 s0 mx;refine zJ 100 ?_;refine zB (zJ 200 ?_);refine zR ?_;refine yC (ι := Al p.keys (fun k => decide (0 <= plI h q.keys k))) [0,5,10,11] [1] 250 (fun x => [(12,.v (.int .i64 x.k))]) (fun _ => []) (fun x => p.keys.length - x.k) ⟨0,Ap _,fun j x hj => by omega⟩ ?_;refine ⟨⟨yK,yH,rfl,rfl⟩,fun x => ?_⟩;have hk := x.le;refine zJ 300 ?_;refine zB (zT rfl (fun c2 => ?_) (fun c2 => ?_))
 ·have c2 : x.k < p.keys.length := by simpa using c2
  refine zM (zA (zB (zR (zJ 400 ?_))));refine zB (zW zL [] [[],[0],[0,1],[0,1,2],[],[4],[],(rgN 7),(rgN 8)] 500 yP kr rfl ?_);refine zF ?_;refine zO _ (uS0 h q.keys _ hh (fun x hx => pT (kq.keyed x hx))) rfl ?_;refine zF ?_;refine zC (zA (zT rfl (fun c4 => ?_) (fun c4 => ?_)))
  ·have c4 : ¬ 0 <= plI h q.keys (p.keys.getD x.k vl0) := by
    have h9 := c4;simp only [Ab,Am] at h9;omega
   refine zJ 600 ?_;refine zK (zQ (zN (yL (zQ (zN ?_)))))
   exact u4 rfl (u7 (by
     symm
     rw [wiB,<- Bool.not_eq_true,Bf];intro h8;exact c4 (Ag (h8 _ (qV c2)))))
  ·have c4 : 0 <= plI h q.keys (p.keys.getD x.k vl0) := by
    have h9 := c4;simp only [Ab,Aw] at h9;omega
   refine zM (zP (zA (yM zL [] 700 ?_)));exact zS (x.next (e := vl0) c2 (Ax c4)) ⟨yK,yH,rfl,rfl⟩ (by show p.keys.length - (x.k + 1) < p.keys.length - x.k;omega)
 ·have c2 : ¬ x.k < p.keys.length := by simpa using c2
  refine yE (yA (yB (zZ (zA (zJ 800 ?_)))));refine zK ?_;exact u4 rfl (u7 (x.yes c2).symm)
theorem qZ0 (op n : Int) : Fx 107 [.v (.int .i64 n),.v (.bool (decide (op = 2)))] (vd0 (fitO op n) st0) := by
 refine yD zL Tryz.func107 rfl rfl rfl rfl rfl rfl ?_;intro w0 s0 mx;refine zJ 100 ?_;refine zJ 200 ?_;refine zK ?_;exact u4 rfl (u20 ⟨u7 (by unfold fitO;simp),by repeat (first | exact trivial | exact u6 _ | exact u12 rfl | refine ⟨?_,?_⟩)⟩)
theorem cG (b : Bool) (s : St) : Fx 46 [vd0 b s] (.agg (stD (if s.k = 1 then s else vlS (boV b)))) := by
 refine yD zL Tryz.func46 rfl rfl rfl rfl rfl rfl ?_;intro w0 s0 mx;refine zJ 100 ?_;refine zB (zJ 200 ?_);refine zT rfl (fun c1 => ?_) (fun c1 => ?_)
 ·have c1 : s.k = 1 := by simpa using c1
  refine zJ 300 ?_;refine zK (zN ?_);rw [Ac c1];exact u4 rfl (u6 _)
 ·have c1 : ¬ s.k = 1 := by simpa using c1
  refine zM (zA ?_);refine zB (zE zL [] 400 rfl ?_);refine zF ?_;refine zO _ (B_ok b) rfl ?_;refine zF ?_;refine zO _ (Result_ok _) rfl ?_;refine zf (zA (zK ?_));rw [Aa c1];exact u4 rfl (u6 _)
theorem bC (h : List Ob) : FnG Tryz.prog 44 [hpD md h] [] (.bp 0 0) [jO md h 10000] := by
 refine gX zL Tryz.func44 rfl rfl rfl rfl rfl rfl rfl ?_;intro w0 s0 mx;refine zJ 100 ?_;refine zJ 200 ?_;refine zK ?_;exact u11 102 rfl rfl (u0 _) ⟨⟨rfl,u0 _,rfl,u0 _,rfl,trivial⟩,trivial⟩
theorem cR0 (h : List Ob) (n : Nat) (a b : List Vl) (F : Nat -> Vl -> Vl -> QR) (ha : a.length <= 1000) (hF : LeQ F) (H : ∀ m,m <= n -> ∀ x ∈ a,∀ y ∈ b,FnG Tryz.prog 45 [.bp 0 0,.agg (vlD x),.agg (vlD y)] [jO md h (m : Nat)] (vdD (F m x y)) [jO md h (jl (F m x y))]) : FnG Tryz.prog 103 [.bp 0 0,vsD a,vsD b,.v (.bool false)] [jO md h (n : Nat)] (vdD (prQ F a b n)) [jO md h (jl (prQ F a b n))] := by
 refine gX zL Tryz.func103 rfl rfl rfl rfl rfl rfl rfl ?_;intro w0 s0 mx;refine zJ 100 ?_;refine zB (zJ 200 ?_);refine zT rfl (fun c1 => ?_) (fun c1 => ?_)
 ·replace c1 : ¬ a.length = b.length := by simp at c1;omega
  refine zJ 300 ?_;refine zK (zN ?_);rw [show prQ F a b n = some (false,n) from Aa c1];exact u11 1 rfl rfl (Sub.ofP (u20 nz) rfl rfl) ⟨⟨rfl,u0 _,rfl,u0 _,rfl,trivial⟩,trivial⟩
 ·replace c1 : a.length = b.length := by simp at c1;omega
  refine zM (zA (zB (zJ 400 ?_)));refine zR ?_;refine yC (ι := Lq F (prL a b) n) [0,1,2,3,8,18] [1] 450 (fun x => [(19,.v (.int .i64 x.k))]) (fun x => [(0,.box 128 [.sl md 10 h obD ob0,.v (.int .i64 (x.m : Nat))])]) (fun x => a.length - x.k) ⟨0,n,Ap _,Ak _,rfl⟩ ?_;refine ⟨⟨yK,⟨⟨rfl,u0 _,rfl,u0 _,rfl,trivial⟩,yH⟩,rfl,rfl⟩,fun x => ?_⟩;have hxl := x.le;rw [kF] at hxl;refine zJ 500 ?_;refine zB (zT rfl (fun c4 => ?_) (fun c4 => ?_))
  ·have c4 : x.k < a.length := by simpa using c4
   have hlb : x.k < b.length := by omega
   refine zM (zA (zB (zR (zJ 600 ?_))));refine zJ 700 ?_;refine zB (zJ 800 ?_);refine zX (fun c7 => ?_) (fun c7 => ?_)
   ·
    exact absurd c7 de
   ·
    refine zW zL [1042] mK5 1000 yP kr rfl ?_;refine zF ?_;refine yQ _ _ (H x.m x.hm _ (by rw [yS om];exact Ar _) _ (by rw [yS om];exact Ar _)) rfl ?_;refine zF ?_;refine zC (zA (zJ 1100 ?_));refine zT rfl (fun c10 => ?_) (fun c10 => ?_)
    ·have c10 : qT (F x.m (a.getD x.k vl0) (b.getD x.k vl0)) = false := by simpa using c10
     refine zJ 1200 ?_;refine zK (zQ (zN (yL (zQ (zN ?_)))));rw [show prQ F a b n = (F x.m (a.getD x.k vl0) (b.getD x.k vl0)) from (Ac c1).trans (x.bad (mM a b c4) c10)];exact u11 1 rfl rfl (u0 _) ⟨⟨rfl,u0 _,rfl,u0 _,rfl,trivial⟩,trivial⟩
    ·have c10 : qT (F x.m (a.getD x.k vl0) (b.getD x.k vl0)) = true := by simpa using c10
     obtain ⟨m2,hr⟩ := qT_y c10;refine zM (zP (zA (yM zL [] 1300 ?_)));exact zS (x.next hF (mM a b c4) hr) ⟨⟨u21 (by show (x.k : Int) + 1 = ((x.k + 1 : Nat) : Int);push_cast;rfl),yK⟩,⟨⟨rfl,u0 _,rfl,u21 (by simp only [Ab,hr];rfl),rfl,trivial⟩,yH⟩,rfl,rfl⟩ (by show a.length - (x.k + 1) < a.length - x.k;omega)
  ·have c4 : ¬ x.k < a.length := by simpa using c4
   refine yE (yA (yB (zZ (zA (zJ 1400 ?_)))));refine zK ?_;rw [show prQ F a b n = some (true,x.m) from (Ac c1).trans (x.fin (by rw [kF];exact c4))];exact u11 1 rfl rfl (Sub.ofP (u20 nz) rfl rfl) ⟨⟨rfl,u0 _,rfl,u0 _,rfl,trivial⟩,trivial⟩
theorem allS_ok (h : List Ob) (n : Nat) (a b : List Vl) (F : Nat -> Vl -> Vl -> QR) (ha : a.length <= 1000) (hF : LeQ F) (H : ∀ m,m <= n -> ∀ x ∈ a,∀ y ∈ b,FnG Tryz.prog 47 [.bp 0 0,.agg (vlD x),.agg (vlD y)] [jO md h (m : Nat)] (vdD (F m x y)) [jO md h (jl (F m x y))]) : FnG Tryz.prog 103 [.bp 0 0,vsD a,vsD b,.v (.bool true)] [jO md h (n : Nat)] (vdD (prQ F a b n)) [jO md h (jl (prQ F a b n))] := by
 refine gX zL Tryz.func103 rfl rfl rfl rfl rfl rfl rfl ?_;intro w0 s0 mx;refine zJ 100 ?_;refine zB (zJ 200 ?_);refine zT rfl (fun c1 => ?_) (fun c1 => ?_)
 ·replace c1 : ¬ a.length = b.length := by simp at c1;omega
  refine zJ 300 ?_;refine zK (zN ?_);rw [show prQ F a b n = some (false,n) from Aa c1];exact u11 1 rfl rfl (Sub.ofP (u20 nz) rfl rfl) ⟨⟨rfl,u0 _,rfl,u0 _,rfl,trivial⟩,trivial⟩
 ·replace c1 : a.length = b.length := by simp at c1;omega
  refine zM (zA (zB (zJ 400 ?_)));refine zR ?_;refine yC (ι := Lq F (prL a b) n) [0,1,2,3,8,18] [1] 450 (fun x => [(19,.v (.int .i64 x.k))]) (fun x => [(0,.box 128 [.sl md 10 h obD ob0,.v (.int .i64 (x.m : Nat))])]) (fun x => a.length - x.k) ⟨0,n,Ap _,Ak _,rfl⟩ ?_;refine ⟨⟨yK,⟨⟨rfl,u0 _,rfl,u0 _,rfl,trivial⟩,yH⟩,rfl,rfl⟩,fun x => ?_⟩;have hxl := x.le;rw [kF] at hxl;refine zJ 500 ?_;refine zB (zT rfl (fun c4 => ?_) (fun c4 => ?_))
  ·have c4 : x.k < a.length := by simpa using c4
   have hlb : x.k < b.length := by omega
   refine zM (zA (zB (zR (zJ 600 ?_))));refine zJ 700 ?_;refine zB (zJ 800 ?_);refine zX (fun c7 => ?_) (fun c7 => ?_)
   ·
    refine zW zL [1032] mK5 900 yP kr rfl ?_;refine zF ?_;refine yQ _ _ (H x.m x.hm _ (by rw [yS om];exact Ar _) _ (by rw [yS om];exact Ar _)) rfl ?_;refine zF ?_;refine zC (zA (zJ 1100 ?_));refine zT rfl (fun c10 => ?_) (fun c10 => ?_)
    ·have c10 : qT (F x.m (a.getD x.k vl0) (b.getD x.k vl0)) = false := by simpa using c10
     refine zJ 1200 ?_;refine zK (zQ (zN (yL (zQ (zN ?_)))));rw [show prQ F a b n = (F x.m (a.getD x.k vl0) (b.getD x.k vl0)) from (Ac c1).trans (x.bad (mM a b c4) c10)];exact u11 1 rfl rfl (u0 _) ⟨⟨rfl,u0 _,rfl,u0 _,rfl,trivial⟩,trivial⟩
    ·have c10 : qT (F x.m (a.getD x.k vl0) (b.getD x.k vl0)) = true := by simpa using c10
     obtain ⟨m2,hr⟩ := qT_y c10;refine zM (zP (zA (yM zL [] 1300 ?_)));exact zS (x.next hF (mM a b c4) hr) ⟨⟨u21 (by show (x.k : Int) + 1 = ((x.k + 1 : Nat) : Int);push_cast;rfl),yK⟩,⟨⟨rfl,u0 _,rfl,u21 (by simp only [Ab,hr];rfl),rfl,trivial⟩,yH⟩,rfl,rfl⟩ (by show a.length - (x.k + 1) < a.length - x.k;omega)
   ·
    exact absurd c7 de
  ·have c4 : ¬ x.k < a.length := by simpa using c4
   refine yE (yA (yB (zZ (zA (zJ 1400 ?_)))));refine zK ?_;rw [show prQ F a b n = some (true,x.m) from (Ac c1).trans (x.fin (by rw [kF];exact c4))];exact u11 1 rfl rfl (Sub.ofP (u20 nz) rfl rfl) ⟨⟨rfl,u0 _,rfl,u0 _,rfl,trivial⟩,trivial⟩
section
variable {h : List Ob} {A B C : List Vl}
end
theorem rgQ_iff {a b c x y z : Int} : rgQ a b c x y z = true ↔ qQ a b c = qQ x y z /\ (qQ a b c = 0 \/ a = x /\ a + c * (qQ a b c - 1) = x + z * (qQ x y z - 1)) := by
 unfold rgQ;simp only [Ai,Da,Am];constructor
 ·rintro ⟨h1,h2⟩;refine ⟨h1,h2.imp id fun ⟨h3,h4⟩ => ⟨by omega,by rw [<- h1];omega⟩⟩
 ·rintro ⟨h1,h2⟩;refine ⟨h1,h2.imp id fun ⟨h3,h4⟩ => ⟨by omega,by rw [<- h1] at h4;omega⟩⟩
section
variable {h : List Ob} (hk : ∀ v : Vl,(zU h v).kind = 3 \/ (zU h v).kind = 4 -> Dk h (zU h v).keys)
include hk
end
theorem cmpI_eq {a b : Int} : cmpI a b = 0 ↔ a = b := by
 unfold cmpI;split <;> (try split) <;> omega
end Go.Proofs.YtinegkcbkefeiaaGreatDoor
