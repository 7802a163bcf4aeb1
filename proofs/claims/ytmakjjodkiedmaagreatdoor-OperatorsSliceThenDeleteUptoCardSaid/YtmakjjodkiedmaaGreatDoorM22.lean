/-OperatorsSliceThenDelete:the given statement. Condition:what the law reads is of bulk at most 1048576 (the second form);the listed variables start as the program's text lays them. -/
import Derived.Test.YtmakjjodkiedmaaGreatDoorM21
import Derived.ProofKit
import Derived.OpenShut
import Derived.ShutString
import Derived.Deep.Matrix
import Derived.Test.YtmakjjodkiedmaaGreatDoorCards
import Derived.Test.YtmakjjodkiedmaaGreatDoorTie
import Derived.Lib.LaidU8T
import Derived.Deep.DeepWitnessRowRef
import Derived.PinnedBridge
import Derived.Lib.LaidSlice
namespace Go.Proofs.YtmakjjodkiedmaaGreatDoor
open Go.RowKit
variable{md me:Bool}
def sqO(k:Int)(l:List Vl):Ob:=⟨k,ByteArray.empty,0,[],[],[],l,[],0,0⟩
theorem mZ0{k:Int}{l:List Vl}(hk: -9223372036854775808<=k/\k<=9223372036854775807)(hl:l.length<=2000000)(hv:∀v∈l,VlIn v):ObIn (sqO k l):=
 ⟨hk,(by decide:(-9223372036854775808:Int)<=0/\(0:Int)<=9223372036854775807),(by decide:(-9223372036854775808:Int)<=0/\(0:Int)<=9223372036854775807),(by decide:(-9223372036854775808:Int)<=0/\(0:Int)<=9223372036854775807),(by decide:ByteArray.empty.size<=2000000),(by decide:0<=2000000),(by decide:0<=2000000),(by decide:0<=2000000),hl,(by decide:0<=2000000),(fun _ h=>by cases h),hv,(fun _ h=>by cases h)⟩
def qS(r:Vl):Int:=rzS (pxI r) (pgB r)
def qB(p r:Vl)(n:Nat):Int:=rzB (pxI p) (rzS (pxI r) (pgB r)) n (pgB p)
def qC(p q r:Vl)(n:Nat):Nat:=rzC (pxI q) (rzS (pxI r) (pgB r)) n (rzB (pxI p) (rzS (pxI r) (pgB r)) n (pgB p)) (pgB q)
def qP(p q r:Vl)(n:Nat):List Int:=slP (qS r) (qB p r n) (qC p q r n)
theorem qQ{p q r:Vl}{n:Nat}(hp:Lg p.nl/\yR p=true)(hq:Lg q.nl/\yR q=true)(hr:Lg r.nl/\yR r=true)(hk:¬(sptS p q r).k=1):RzQ (qS r) (qB p r n) (qC p q r n) n:=rzQ (slK hp hq hr hk)
theorem ps_k{p q r:Vl}(hk:¬(sptS p q r).k=1):psD p q r=sicD (pxI p) (pxI q) (pxI r) (pgB p) (pgB q) (pgB r):=Aa hk
theorem xK(p q r:Vl)(hp:Lg p.nl/\yR p=true)(hq:Lg q.nl/\yR q=true)(hr:Lg r.nl/\yR r=true)(hk:¬(sptS p q r).k=1):Fx 27 [.agg (p3D p q r)] (.tup [.agg (sicD (pxI p) (pxI q) (pxI r) (pgB p) (pgB q) (pgB r)),.agg (stD (sptS p q r))]):=by
 rw[<-ps_k hk];exact opSlice_ok p q r hp hq hr
theorem opInst_ok(h:List Ob)(v:Vl)(hv:v.k=6->qA h v.r=true):Fx 22 [hpD md h,.agg (vlD v)] (.v (.bool (decide ((yD h v).kind=10)))):=by
 refine yM zO Tryz.func22 rfl rfl rfl rfl rfl rfl ?_;intro w0 s0 mx;refine zK 100 ?_;refine zB (zE zO [] 200 rfl ?_);refine zF ?_;refine zS _ (uQ h v hv) rfl ?_;refine zf (zA (zN ?_));exact u1 rfl (u4 _)
theorem opAdd_G(h:List Ob)(o:Ob)(hh:h.length<=4000000)(ho:ObIn o):FnG Tryz.prog 35 [.bp 0 0,.agg (obD o)] (hpO h) (.agg (stD (vlS (rfV (h.length:Nat))))) (hpO (h++[o])):=by
 refine pJ zO Tryz.func35 rfl rfl rfl rfl rfl rfl rfl ?_;intro w0 s0 mx;refine zK 100 ?_;refine zB (zE zO [1007] 200 rfl ?_);refine zF ?_;refine vS _ _ (heapNew_G h o hh ho) rfl ?_;refine zF ?_;refine zS _ (heapRef_ok _) rfl ?_;refine zF ?_;refine zS _ (opValue_ok _) rfl ?_;refine zf (zA (zN ?_));exact FinH.ret 2 rfl rfl (Sub.ofP (u4 _) rfl rfl) ⟨⟨rfl,Sub.mo (by simp),rfl,trivial⟩,SubO.mp rfl,trivial⟩
set_option maxHeartbeats 1000000 in
theorem opSlice2_G(h:List Ob)(v p q r:Vl)(hh:HpIn h)(hvk:v.k=6->qA h v.r=true)(hkl:(yD h v).items.length<=1000)(hp:Lg p.nl/\yR p=true)(hq:Lg q.nl/\yR q=true)(hr:Lg r.nl/\yR r=true)(hk2:(yD h v).kind=2)(hk:¬(sptS p q r).k=1):FnG Tryz.prog 8 [.bp 0 0,.agg (vlD v),.agg (p3D p q r)] (hpO h) (plnD [] (vlS (rfV (h.length:Nat)))) (hpO (h++[(sqO (yD h v).kind (tkL vl0 (yD h v).items (qP p q r (yD h v).items.length)))])):=by
 have hhl:=hh.len;have ho:v.k=6/\qA h v.r=true:=have e:=pB (h:=h) (v:=v) om;⟨e.1,e.2.1⟩;have hv6:=ho.1;have hvl:=uZ ho.2;have eo:yD h v=h.getD v.r.toNat ob0:=pC hvk ho.1;have hin:ObIn (yD h v):=by rw[eo];exact hh.at v.r
 have K:=slK hp hq hr hk;have Q:=qQ (n:=(yD h v).items.length) hp hq hr hk;have hsb:sbK h v=1:=sbK_1.2 (.inr (.inr (.inl hk2)));have hnw:ObIn (sqO (yD h v).kind (tkL vl0 (yD h v).items (qP p q r (yD h v).items.length))):=mZ0 hin.kd (by rw[kD];unfold qP;rw[vQ];have:=Q.cn;omega) (fun x hx=>hin.iv x (gS0 Q.at_ x hx));refine pJ zO Tryz.func8 rfl rfl rfl rfl rfl rfl rfl ?_;intro w0 s0 mx;refine zK 100 ?_;refine zB ?_;refine zB (yE zO [] [[],[0],[0,1],[],[0,1,2,3]] 200 yX kr rfl ?_);refine zF ?_;refine vR _ (opInst_ok h v hvk) rfl rfl ?_;refine zF ?_;refine zC (zA (zX (fun c1=>?_) (fun c1=>?_)))
 ·
  first|omega|(have h9:=c1;simp at h9;omega)
 ·
  refine zJ (zA (zB ?_));refine zB (yE zO [] [[],[0],[0,1],[],[0,1,2,3],(rgN 5)] 600 yX kr rfl ?_);refine zF ?_;refine vR _ (opKindOf_ok h v hvk) rfl rfl ?_;refine zF ?_;refine zC (zA (zX (fun c5=>?_) (fun c5=>?_)))
  ·
   exact(c5 hsb).elim
  ·
   refine zJ (zA ?_);refine zB (zE zO [] 800 rfl ?_);refine zF ?_;refine zS _ (xK p q r hp hq hr hk) rfl ?_;refine zF ?_;refine zC (zA (zB (zK 900 ?_)));refine zX (fun c8=>?_) (fun c8=>?_)
   ·
    exact(hk c8).elim
   ·
    refine zJ (zA ?_);refine zB (yE zO [] mK5 1100 yX kr rfl ?_);refine zF ?_;refine vR _ (uQ h v hvk) rfl rfl ?_;refine zF ?_;refine zC (zA (zB (zQ (zK 1200 ?_))));refine zX (fun c11=>?_) (fun c11=>?_)
    ·
     first|omega|(have h9:=c11;simp at h9;omega)
    ·
     refine zK 1500 ?_;refine zX (fun c14=>?_) (fun c14=>?_)
     ·
      first|omega|(have h9:=c14;simp at h9;omega)
     ·
      refine zK 1800 ?_;refine zX (fun c17=>?_) (fun c17=>?_)
      ·
       first|omega|(have h9:=c17;simp at h9;omega)
      ·
       refine zJ (zL (zA ?_));refine zB (zE zO [] 2000 rfl ?_);refine zF ?_;refine zS _ (slTakeV_ok (yD h v).items (pxI p) (pxI q) (pxI r) (pgB p) (pgB q) (pgB r) K om) rfl ?_;refine zf (zA ?_);refine zB (zE zO [1129] 2100 rfl ?_);refine zF ?_;refine vS _ _ ((opAdd_G h (sqO (yD h v).kind (tkL vl0 (yD h v).items (qP p q r (yD h v).items.length))) om hnw).args ⟨u0 _,Sub.ofP (SubP.agg ⟨u4 _,u4 _,u4 _,u10 rfl,u10 rfl,u10 rfl,u4 _,u10 rfl,u4 _,u4 _,trivial⟩) rfl rfl,trivial⟩) (chk_hp _ _) ?_;refine zf (zA (zN ?_));exact FinH.ret 2 rfl rfl (Sub.ofP (SubP.agg ⟨u10 rfl,SubPs.refl _⟩) rfl rfl) ⟨⟨rfl,Sub.mo (by simp),rfl,trivial⟩,SubO.mp (rfl),trivial⟩
theorem kY0{P:Program}{E:Pn}{K:DS->Prop}{p:Prop}{r:Out}(hr:r.sat P E K)(hp:p:=by first|rfl|exact⟨by omega,hvl.2⟩|exact⟨hvl.1,hvl.2⟩|exact⟨by simp[MR.len],by show _<(MR.map h obD ob0).len;simpa[MR.len]using hvl.2⟩|(simp only[MR.len];done)|exact Dl):(Out.need p r).sat P E K:=⟨hp,hr⟩
set_option maxHeartbeats 1000000 in
theorem opDelSlice2_G(h:List Ob)(v p q r:Vl)(hh:HpIn h)(hvk:v.k=6->qA h v.r=true)(hkl:(yD h v).items.length<=1000)(hp:Lg p.nl/\yR p=true)(hq:Lg q.nl/\yR q=true)(hr:Lg r.nl/\yR r=true)(hk2:(yD h v).kind=2)(hk:¬(sptS p q r).k=1):FnG Tryz.prog 9 [.bp 0 0,.agg (vlD v),.agg (p3D p q r)] (hpO h) (plnD [] st0) (hpO (h.set v.r.toNat {yD h v with items:=(drL vl0 (yD h v).items (qP p q r (yD h v).items.length) (yD h v).items.length)})):=by
 have hhl:=hh.len;have ho:v.k=6/\qA h v.r=true:=have e:=pB (h:=h) (v:=v) om;⟨e.1,e.2.1⟩;have hv6:=ho.1;have hvl:=uZ ho.2;have eo:yD h v=h.getD v.r.toNat ob0:=pC hvk ho.1;have hin:ObIn (yD h v):=by rw[eo];exact hh.at v.r
 have K:=slK hp hq hr hk;have Q:=qQ (n:=(yD h v).items.length) hp hq hr hk;refine pJ zO Tryz.func9 rfl rfl rfl rfl rfl rfl rfl ?_;intro w0 s0 mx;refine zK 100 ?_;refine zB (yE zO [] mK5 200 yX kr rfl ?_);refine zF ?_;refine vR _ (uQ h v hvk) rfl rfl ?_;refine zF ?_;refine zC (zA (zB (zK 300 ?_)));refine zX (fun c2=>?_) (fun c2=>?_)
 ·
  exact(c2 hk2).elim
 ·
  refine zJ (zA ?_);refine zB (zE zO [] 800 rfl ?_);refine zF ?_;refine zS _ (xK p q r hp hq hr hk) rfl ?_;refine zF ?_;refine zC (zA (zB (zK 900 ?_)));refine zX (fun c8=>?_) (fun c8=>?_)
  ·
   exact(hk c8).elim
  ·
   refine zJ (zA ?_);refine zB (yE zO [] [[],[0],[0,1],[0,1,2],[],[4],[],[6],[],[6,7,8],[6,7,8,9],[6,7,8,9,10],[6,7,8,9,10],(rgN 12),[0,1,2,3,4,5,6,7,8,9,10,11,13],[0,1,2,3,4,5,6,7,8,9,10,11,13,14]] 1100 yX kr rfl ?_);repeat(first|refine zH ?_|refine kY0 ?_)
   refine zS _ (slDropV_ok (yD h v).items (pxI p) (pxI q) (pxI r) (pgB p) (pgB q) (pgB r) K om) rfl ?_;repeat(first|refine zH ?_|refine kY0 ?_)
   refine zC (zA (zK 1200 ?_));refine zN ?_;exact FinH.ret 2 rfl rfl (Sub.ofP (SubP.agg ⟨u10 rfl,nq9⟩) rfl rfl) ⟨⟨rfl,Sub.mo (by simp),rfl,trivial⟩,SubO.mp (uX0 (by rw[<-eo];rfl)),trivial⟩
set_option maxHeartbeats 1000000 in
theorem opSetSlice2_G(h:List Ob)(v p q r w:Vl)(es:List Vl)(hh:HpIn h)(hvk:v.k=6->qA h v.r=true)(hkl:(yD h v).items.length<=1000)(hp:Lg p.nl/\yR p=true)(hq:Lg q.nl/\yR q=true)(hr:Lg r.nl/\yR r=true)(hk2:(yD h v).kind=2)(hk:¬(sptS p q r).k=1)(hes:es.length<=1000000)(hcd:puC (qS r) (qC p q r (yD h v).items.length) (yD h v).items.length es.length 1000=0):FnG Tryz.prog 13 [.bp 0 0,.agg (vlD v),.agg (p3D p q r),.agg (vlD w),vsD es] (hpO h) (plnD [] st0) (hpO (h.set v.r.toNat {yD h v with items:=(puR (yD h v).items (qS r) (qB p r (yD h v).items.length) (qC p q r (yD h v).items.length) es 1000)})):=by
 have hhl:=hh.len;have ho:v.k=6/\qA h v.r=true:=have e:=pB (h:=h) (v:=v) om;⟨e.1,e.2.1⟩;have hv6:=ho.1;have hvl:=uZ ho.2;have eo:yD h v=h.getD v.r.toNat ob0:=pC hvk ho.1;have hin:ObIn (yD h v):=by rw[eo];exact hh.at v.r
 have K:=slK hp hq hr hk;have Q:=qQ (n:=(yD h v).items.length) hp hq hr hk;refine pJ zO Tryz.func13 rfl rfl rfl rfl rfl rfl rfl ?_;intro w0 s0 mx;refine zK 100 ?_;refine zB (yE zO [] mK5 200 yX kr rfl ?_);refine zF ?_;refine vR _ (uQ h v hvk) rfl rfl ?_;refine zF ?_;refine zC (zA (zB (zK 300 ?_)));refine zX (fun c2=>?_) (fun c2=>?_)
 ·
  exact(c2 hk2).elim
 ·
  refine zJ (zA ?_);refine zB (zE zO [] 800 rfl ?_);refine zF ?_;refine zS _ (xK p q r hp hq hr hk) rfl ?_;refine zF ?_;refine zC (zA (zB (zK 900 ?_)));refine zX (fun c8=>?_) (fun c8=>?_)
  ·
   exact(hk c8).elim
  ·
   refine zJ (zA ?_);refine zB (zE zO [] 1100 rfl ?_);refine zF ?_;refine zS _ (slPutV_ok (yD h v).items (pxI p) (pxI q) (pxI r) (pgB p) (pgB q) (pgB r) es 1000 K om hes) rfl ?_;refine zF ?_;refine zC (zA (zB (zK 1200 ?_)));refine zQ (zK 1300 ?_);refine zT rfl (fun c12=>?_) (fun c12=>?_)
   ·
    refine zB (yE zO [] [[],[0],[0,1],[0,1,2],[],[4],[],(rgN 7),(rgN 8),(rgN 9)] 1400 yX kr rfl ?_);repeat(first|refine zH ?_|refine kY0 ?_)
    refine zC (zA (zK 1500 ?_));refine zN (zP (zM ?_));exact FinH.ret 2 rfl rfl (Sub.ofP (SubP.agg ⟨u10 rfl,nq9⟩) rfl rfl) ⟨⟨rfl,Sub.mo (by simp),rfl,trivial⟩,SubO.mp (uX0 (by rw[<-eo];rfl)),trivial⟩
   ·have c12:¬puC (qS r) (qC p q r (yD h v).items.length) (yD h v).items.length es.length 1000=0:=by have h9:=c12;simp at h9;exact h9
    exact(c12 hcd).elim
def fbD(k:Nat)(cs:List D):D->D
 | .bp k' off=>match Nat.beq k' k with
  |true=> .pt false (wD off cs)
  |false=> .bp k' off
 |d=>d
def fbT(k:Nat)(cs:List D):List (Nat×D)->List (Nat×D)
 |[]=>[]
 |(t,d)::l=>(t,fbD k cs d)::fbT k cs l
def fbO(k:Nat):List (Nat×DOwn)->List (Nat×DOwn)
 |[]=>[]
 |(j,c)::l=>match Nat.beq j k with
  |true=>fbO k l
  |false=>(j,c)::fbO k l
def allP:List D->Bool
 |[]=>true
 |d::l=>match d.pure with|true=>allP l|false=>false
theorem uE0:∀{l:List D}{d:D},allP l=true->d∈l->d.pure=true
 |[],_,_,h=>by cases h
 |e::l,d,h,hd=>by
  unfold allP at h
  cases he:e.pure with
  |false=>rw[he]at h;cases h
  |true=>
   rw[he]at h;rcases Bc.1 hd with rfl|hd
   ·exact he
   ·exact uE0 h hd
theorem wN0{k:Nat}{cs:List D}:∀{l:List (Nat×D)}{t:Nat},yQ t (fbT k cs l)=(yQ t l).map (fbD k cs)
 |[],_=>rfl
 |(u,d)::l,t=>by
  show yQ t ((u,fbD k cs d)::fbT k cs l)=_;rw[yN,yN];by_cases h:u=t
  ·simp[h]
  ·rw[Aa h,Aa h];exact wN0
theorem tA{k:Nat}:∀{l:List (Nat×DOwn)}{j:Nat}{c:DOwn},yQ j (fbO k l)=some c->j≠k/\yQ j l=some c
 |[],_,_,h=>by cases h
 |(i,d)::l,j,c,h=>by
  unfold fbO at h
  cases hb:Nat.beq i k with
  |true=>
   rw[hb]at h;obtain⟨h1,h2⟩:=tA h;have hik:=Ab hb;exact⟨h1,by rw[yN,Aa (by rintro rfl;exact h1 hik)];exact h2⟩
  |false=>
   rw[hb]at h;have h:yQ j ((i,d)::fbO k l)=some c:=h;rw[yN]at h;by_cases hi:i=j
   ·rw[Ag hi]at h;refine⟨fun e=>?_,by rw[yN,Ag hi];exact h⟩;rw[hi,e,Nat.beq_refl]at hb
    cases hb
   ·rw[Aa hi]at h;obtain⟨h1,h2⟩:=tA h;exact⟨h1,by rw[yN,Aa hi];exact h2⟩
section
variable{P:Program}{b:Ba}
theorem ev_frzB(k:Nat){t:TypeId}{cs:List D}{c:Code}{tm:List (Nat×D)}{ow:List (Nat×DOwn)}{nx:Nat}{K:Exit->DS->Prop}(hk:yQ k ow=some (.box t cs))(hp:allP cs=true)
  (h:Ev P b c ⟨fbT k cs tm,fbO k ow,nx⟩ K):Ev P b c ⟨tm,ow,nx⟩ K:=by
 intro w s g a Q hr hK;have hk0:fnd k (ows ow)=some (.box t (D.tvl cs)):=by rw[qD,hk];rfl
 obtain⟨⟨N,vs,g1,g2,g3,g4,g5⟩,hblk⟩:=hr.ow k _ hk0;have hcell:∀(o:Nat)(u:Value),vs[o]?=some u->w.cell? ⟨N,o,none⟩=some u:=fun o u hu=>by
  simp[World.cell?,g2,hu]
 obtain⟨p,hpd⟩:∃p:Nat->Nat->Prop,p=fun B o=>B=N/\o<vs.length:=⟨_,rfl⟩;have hpl:∀B o,p B o->B=N/\o<vs.length:=fun B o h=>by rw[hpd]at h;exact h
 have hN:N<w.heap.size:=by
  rcases Bm N w.heap.size with h1|h1
  ·exact h1
  ·rw[Array.getElem?_eq_none h1]at g2;cases g2
 have hx:Ex w s w (s.add p):=⟨fun _ _ h=> .inl h,fun _ _ _=>rfl,fun _ _ h=> .inl h⟩;have hlt:∀B o,p B o->B<w.heap.size:=fun B o hpo=>by rw[(hpl B o hpo).1];exact hN
 have hkeep:∀{j:Nat}{c:Own},fnd j (ows ow)=some c->j≠k->∀N' o,blk g j c=some N'->(s.add p) N' o->s N' o:=fun{j c}hj hne N' o hb hs=>by
  rcases hs with hs|hs
  ·exact hs
  ·exact absurd hb (hr.sep k j _ c N' hk0 hj (Ne.symm hne) (by rw[(hpl N' o hs).1];exact g1))
 have hval:∀(d:D)(v:Value),d.tv.P w s g v->(fbD k cs d).tv.P w (s.add p) g v:=fun d v hv=>by
  have plain:d.tv.P w (s.add p) g v:=TV.mono hx (GLe.refl g) hv
  cases d with
  |bp k' off=>
   show(match Nat.beq k' k with|true=>D.pt false (wD off cs)|false=>D.bp k' off).tv.P w (s.add p) g v
   cases hb:Nat.beq k' k with
   |false=>exact plain
   |true=>
    have e:=Ab hb;subst e;rw[D.tv]at hv;obtain⟨N',h1,h2⟩:=hv;have e2:N'=N:=Option.some.inj (h1.symm.trans g1);subst e2;show(PV.pt false (D.pvs (wD off cs))).p w (s.add p) v;refine⟨N',off,h2,fun j d hd=>?_⟩;rw[jX,uL,Bf]at hd;obtain⟨x,hx1,rfl⟩:=Option.map_eq_some_iff.1 hd;rw[Cb]at hx1;obtain⟨u,h3,h4⟩:=AllT.get g3 (j:=off+j) (d:=x.tv) (by rw[qH,Bf,hx1];rfl);have hxm:x∈cs:=Aw hx1;have h5:x.pv.p w s u:=TV.weak (D.toPV (uE0 hp hxm)) h4;have h6:off+j<vs.length:=(Ac.1 h3).1;refine⟨u,hcell _ _ h3,.inr (by rw[hpd];exact⟨rfl,h6⟩),x.pv.mono _ _ _ _ u hx h5,?_⟩;have h7:=g4 x.tv (by rw[qH];exact Bu.2 ⟨x,hxm,rfl⟩);exact TV.cell h7 h4
  |_=>exact plain
 refine h w (s.add p) g a Q ⟨⟨hr.kp.ex.trans hx,fun B o hs=>?_,fun B o hs=>?_,hr.kp.os,hr.kp.tape,hr.kp.output,hr.kp.size,hr.kp.block,hr.kp.gl⟩,fun B o hs=>hs.elim (hr.lt B o) (hlt B o),hr.sz,fun t d hd=>?_,fun j c hj=>?_,fun j j' c c' N' h1 h2 hne hb=>?_,hr.fr,hr.df,hr.gb⟩ hK
 ·rcases hs with hs|hs
  ·exact hr.kp.st B o hs
  ·exact .inr (by rw[(hpl B o hs).1];exact hblk N g1)
 ·rcases hs with hs|hs
  ·exact hr.kp.sst B o hs
  ·exact .inr (by rw[(hpl B o hs).1];exact hblk N g1)
 ·have hd':fnd t (tvs (fbT k cs tm))=some d:=hd;rw[qE,wN0]at hd'
  cases hq:yQ t tm with
  |none=>rw[hq]at hd';cases hd'
  |some x=>
   rw[hq]at hd'
   cases hd';obtain⟨v,h1,h2⟩:=hr.tm t x.tv (by show fnd t (tvs tm)=_;rw[qE,hq];rfl);exact⟨v,h1,hval x v h2⟩
 ·have hj':fnd j (ows (fbO k ow))=some c:=hj;rw[qD]at hj'
  cases hq:yQ j (fbO k ow)with
  |none=>rw[hq]at hj';cases hj'
  |some d=>
   rw[hq]at hj'
   cases hj';obtain⟨hne,h1⟩:=tA hq;have h1':fnd j (ows ow)=some d.o:=by rw[qD,h1];rfl
   exact⟨(hr.ow j _ h1').1.keep hx (GLe.refl g) (fun _=>rfl) (fun _ _=>rfl) (fun N o hb hs=>hkeep h1' hne N o hb hs),(hr.ow j _ h1').2⟩
 ·have e1:∀{i:Nat}{d:Own},fnd i (ows (fbO k ow))=some d->fnd i (ows ow)=some d:=fun{i d}hi=>by
   rw[qD]at hi⊢
   cases hq:yQ i (fbO k ow)with
   |none=>rw[hq]at hi;cases hi
   |some x=>rw[hq]at hi;rw[(tA hq).2];exact hi
  exact hr.sep j j' c c' N' (e1 h1) (e1 h2) hne hb
end
variable{md me:Bool}
theorem refCutQ(p q r:Vl)(n:Nat)(hp:Lg p.nl/\yR p=true)(hq:Lg q.nl/\yR q=true)(hr:Lg r.nl/\yR r=true)(hk:¬(sptS p q r).k=1)(h1:n<=4000):Fx 10 [.agg (p3D p q r),.v (.int .i64 (n:Nat))] (.tup [isD (qP p q r n),.v (.int .i64 (qS r))]):=
 refCut_ok p q r (n:Int) hp hq hr hk om om
theorem yW0{h:List Ob}{v:Vl}(hs:hasS h v=true):Vd h v:=⟨by simp only[hasS,Ah]at hs;exact hs.1,fun hk=>has_obj hs hk⟩
theorem bR{h:List Ob}{o:Ob}{n:Int}(hi:qA h n=true):qA (h++[o]) n=true/\(h++[o]).getD n.toNat ob0=h.getD n.toNat ob0:=by
 have h1:=uZ hi;have e:(h++[o]).getD n.toNat ob0=h.getD n.toNat ob0:=by rw[Aj,Bb h1.2,<-Aj]
 refine⟨?_,e⟩;unfold qA at hi⊢;rw[e];simp only[Ah,Ai]at hi⊢;exact⟨⟨hi.1.1,by rw[Ae];have:=hi.1.2;push_cast;omega⟩,hi.2⟩
theorem objS_app1{h:List Ob}{o:Ob}{v:Vl}(hk:v.k=6)(hi:qA h v.r=true):yD (h++[o]) v=yD h v:=by
 unfold yD;rw[Ag ⟨hk,(bR hi).1⟩,Ag ⟨hk,hi⟩,(bR hi).2]
theorem objS_new1{h:List Ob}{o:Ob}(hk:¬o.kind=0):yD (h++[o]) (rfV (h.length:Nat))=o:=by
 have e:(h++[o]).getD ((h.length:Nat):Int).toNat ob0=o:=by
  rw[As,Aj,Bk (Ap _),Nat.sub_self];rfl
 have hi:qA (h++[o]) ((h.length:Nat):Int)=true:=by
  unfold qA;rw[e];simp[hk];omega
 unfold yD;rw[Ag ⟨rfl,hi⟩];exact e
theorem objS_set1{h:List Ob}{o:Ob}{v:Vl}(hv:v.k=6)(hi:qA h v.r=true)(hk:¬o.kind=0):yD (h.set v.r.toNat o) v=o:=by
 have h1:=uZ hi;have e:(h.set v.r.toNat o).getD v.r.toNat ob0=o:=set_get h1.2;have hi2:qA (h.set v.r.toNat o) v.r=true:=by
  unfold qA;rw[e,Ck];simp[hk,h1.1];omega
 unfold yD;rw[Ag ⟨hv,hi2⟩];exact e
theorem hp_app1{h:List Ob}(hh:HpIn h)(hl:h.length<2000000){o:Ob}(ho:ObIn o):HpIn (h++[o]):=⟨fun x hx=>by
 rcases Az.1 hx with h1|h1
 ·exact hh.ob x h1
 ·rw[List.mem_singleton.1 h1];exact ho,by rw[Ae];show h.length+1<=2000000;omega⟩
theorem pu_back{l:List Vl}{p q r:Vl}(hp:Lg p.nl/\yR p=true)(hq:Lg q.nl/\yR q=true)(hr:Lg r.nl/\yR r=true)(hk:¬(sptS p q r).k=1)(h1:¬qS r=1)(hl:l.length<=1000):puC (qS r) (qC p q r l.length) l.length (tkL vl0 l (qP p q r l.length)).length 1000=0/\puR l (qS r) (qB p r l.length) (qC p q r l.length) (tkL vl0 l (qP p q r l.length)) 1000=l:=by
 have hc:(tkL vl0 l (qP p q r l.length)).length=qC p q r l.length:=by rw[kD];exact vQ _ _ _
 have Q:=qQ (n:=l.length) hp hq hr hk;have h0:puC (qS r) (qC p q r l.length) l.length (tkL vl0 l (qP p q r l.length)).length 1000=0:=by
  unfold puC;rw[Aa (fun h=>h.2 hc),Aa (by have:=Q.cn;omega)]
 refine⟨h0,?_⟩;unfold puR;rw[Aa (not_not_intro h0),Aa h1,hc];exact puL_back vl0 l _ _ _ _ (Ap _) Q.at_
theorem xT0{P:Program}{E:Pn}{K:DS->Prop}{p:Prop}{r:Out}(hr:r.sat P E K)(hp:p:=by first|exact⟨Nat.zero_lt_one,by rw[vB];show 3+1<=1073741824;decide⟩|exact Dl):(Out.need p r).sat P E K:=⟨hp,hr⟩
theorem kX0{P:Program}{E:Pn}{K:DS->Prop}{p:Prop}{r:Out}(hr:r.sat P E K)(hp:p:=by first|exact⟨by omega,d1⟩|exact⟨by omega,by omega⟩|exact Dl):(Out.need p r).sat P E K:=⟨hp,hr⟩
set_option maxHeartbeats 4000000 in
theorem Law40_ok(h:List Ob)(v p q r:Vl)(hh:HpIn h)(hiv:VlIn v)(hip:VlIn p)(hiq:VlIn q)(hir:VlIn r):Fx 3 [hpD md h,.agg (vlD v),.agg (p3D p q r)] (.v (.bool true)):=by
 have hhl:=hh.len;refine yM zO Tryz.func3 rfl rfl rfl rfl rfl rfl ?_;intro w0 s0 mx;refine zK 100 ?_;refine zB ?_;refine ev_frzB 2 rfl rfl ?_;refine zB (yE zO [] [[],[],[],[2],[1,2,3],(rgN 5),(rgN 6),(rgN 7),(rgN 8),(rgN 8),(rgN 10),(rgN 11),(rgN 12),(rgN 13),(rgN 14),(rgN 15),(rgN 16),(rgN 17),(rgN 18),(rgN 19)] 200 yX kr rfl ?_);repeat(first|refine zH ?_|refine xT0 ?_)
 refine zS _ ((Usable_ok h [p,q,r,v] hh (fun u hu=>by simp only[Bc,List.not_mem_nil,or_false]at hu;rcases hu with rfl|rfl|rfl|rfl<;>assumption) (by show 4<=2000000;decide)).args ⟨u4 _,SubP.ownSl rfl,trivial⟩) rfl ?_
 repeat(first|refine zH ?_|refine xT0 ?_)
 refine yP _ (fun hg10=>qX h v) rfl ?_;repeat(first|refine zH ?_|refine xT0 ?_)
 refine yP _ (fun hg16=>PartsProblem_ok p q r) rfl ?_;repeat(first|refine zH ?_|refine xT0 ?_)
 refine zC (zA (zT rfl (fun c1=>?_) (fun c1=>?_)))
 ·
  refine zK 300 ?_;refine zN (zM ?_);exact u1 rfl (u4 _)
 ·have hu:gZ h [p,q,r,v]=true/\(yD h v).kind=2/\¬(sptS p q r).k=1:=by
   have h9:=c1;simp only[Cg,Be,Av,Bd,Cc,not_or,Bool.not_eq_false]at h9
   simp_all
  obtain⟨hu,hk2,hk⟩:=hu;have hpr:(jI h).1=0/\hasS h p=true/\hasS h q=true/\hasS h r=true/\hasS h v=true:=by
   simp only[gZ,Ah,Ai,List.all_cons,List.all_nil,Bool.and_true]at hu;exact hu
  have g:Uh h:=uh_of hpr.1;have hgi:=g.hi;have hvv:=yW0 hpr.2.2.2.2;have hp:Lg p.nl/\yR p=true:=⟨hip.nl,(yW0 hpr.2.1).1⟩;have hq:Lg q.nl/\yR q=true:=⟨hiq.nl,(yW0 hpr.2.2.1).1⟩;have hr:Lg r.nl/\yR r=true:=⟨hir.nl,(yW0 hpr.2.2.2.1).1⟩;have hkl:=(keys_le g v).2;have ho:v.k=6/\qA h v.r=true:=have e:=pB (h:=h) (v:=v) om;⟨e.1,e.2.1⟩;have hvl:=uZ ho.2;have eo:yD h v=h.getD v.r.toNat ob0:=pC hvv.2 ho.1;have hin:ObIn (yD h v):=by rw[eo];exact hh.at v.r
  have Q:=qQ (n:=(yD h v).items.length) hp hq hr hk;have hnw:ObIn (sqO (yD h v).kind (tkL vl0 (yD h v).items (qP p q r (yD h v).items.length))):=mZ0 hin.kd (by rw[kD];unfold qP;rw[vQ];have:=Q.cn;omega) (fun x hx=>hin.iv x (gS0 Q.at_ x hx));have s1:=opSlice2_G h v p q r hh hvv.2 hkl hp hq hr hk2 hk;have hcut:=refCutQ p q r (yD h v).items.length hp hq hr hk om;have hhd:=drI_len (s:=qS r) (b:=qB p r (yD h v).items.length) (n:=(yD h v).items.length) Q.nz (qC p q r (yD h v).items.length) Q.at_;obtain⟨H1,e1⟩:∃H,H=h++[sqO (yD h v).kind (tkL vl0 (yD h v).items (qP p q r (yD h v).items.length))]:=⟨_,rfl⟩;rw[<-e1]at s1;have hH1:HpIn H1:=by rw[e1];exact hp_app1 hh om hnw
  have o1:yD H1 (rfV (h.length:Nat))=sqO (yD h v).kind (tkL vl0 (yD h v).items (qP p q r (yD h v).items.length)):=by rw[e1];exact objS_new1 (by show ¬(yD h v).kind=0;omega)
  have o2:qA H1 v.r=true:=by rw[e1];exact(bR ho.2).1
  have o3:yD H1 v=yD h v:=by rw[e1];exact objS_app1 ho.1 ho.2
  have s2:=opDelSlice2_G H1 v p q r hH1 (fun _=>o2) (by rw[o3];exact hkl) hp hq hr (by rw[o3];exact hk2) hk;rw[o3]at s2;obtain⟨H2,e2⟩:∃H,H=H1.set v.r.toNat {yD h v with items:=drL vl0 (yD h v).items (qP p q r (yD h v).items.length) (yD h v).items.length}:=⟨_,rfl⟩;rw[<-e2]at s2;have o4:yD H2 v={yD h v with items:=drL vl0 (yD h v).items (qP p q r (yD h v).items.length) (yD h v).items.length}:=by rw[e2];exact objS_set1 ho.1 o2 (by show ¬(yD h v).kind=0;omega)
  have hbk:=fun h1=>pu_back (l:=(yD h v).items) hp hq hr hk h1 hkl;obtain⟨T,hT⟩:∃T,T=tkL vl0 (yD h v).items (qP p q r (yD h v).items.length):=⟨_,rfl⟩;obtain⟨PL,hPL⟩:∃L,L=qP p q r (yD h v).items.length:=⟨_,rfl⟩;have hTl:T.length=PL.length:=by rw[hT,kD,hPL]
  have hPc:PL.length=qC p q r (yD h v).items.length:=by rw[hPL];exact vQ _ _ _
  have hcn:=Q.cn;have hTi:(yD H1 (rfV (h.length:Nat))).items=T:=by rw[o1,hT];rfl
  have hDi:(yD H2 v).items=drL vl0 (yD h v).items PL (yD h v).items.length:=by rw[o4,hPL]
  have hDl:(yD H2 v).items.length+PL.length=(yD h v).items.length:=by rw[hDi,xD0,hPc,hPL];exact hhd
  rw[<-hPL]at hcut;rw[<-hT]at hbk;refine zJ (zA ?_);refine zB (zE zO [1040] 400 rfl ?_);refine zF ?_;refine vS _ _ (kV0 h hh) rfl ?_;refine zf (zA ?_);refine jJ [3,4,5,7] [0,1,201,202] 410 [] [(201,.mrow 36 10 (.map h obD ob0)),(202,.box 24 [.mo 201 h.length])] ?_;refine⟨⟨yK,⟨SubO.mp rfl,⟨rfl,Sub.mo rfl,rfl,trivial⟩,yH⟩,rfl,rfl⟩,?_⟩;refine zB (zE zO [1043] 500 rfl ?_);refine zF ?_;refine vS _ _ (s1) (xJ0 _ _ _) ?_;refine zf (zA ?_);refine jJ [3,4,5,7,8] [0,1,201,202,413] 510 [] [(201,.mrow 36 10 (.map H1 obD ob0)),(202,.box 24 [.mo 201 H1.length]),(413,.box 44 (stsD []::stD (vlS (rfV (h.length:Nat)))))] ?_;refine⟨⟨yK,⟨SubO.mp rfl,⟨rfl,Sub.mo rfl,rfl,trivial⟩,⟨rfl,SubL.same rfl⟩,yH⟩,rfl,rfl⟩,?_⟩;refine zB (zE zO [] 600 rfl ?_);refine zF ?_;refine vR _ (qX H1 (rfV (h.length:Nat))) rfl rfl ?_;refine zf (zA (zB ?_));refine jJ [3,4,5,7] [0,1,201,202] 610 [(9,vsD T)] [] ?_;refine⟨⟨⟨Sub.of_eq (congrArg vsD hTi),yK⟩,yH,rfl,rfl⟩,?_⟩;refine zB (zE zO [1052] 700 rfl ?_);refine zF ?_;refine vS _ _ (s2) (xJ0 _ _ _) ?_;refine zf (zA ?_);refine jJ [3,4,5,7,9,10] [0,1,201,202,613] 710 [] [(201,.mrow 36 10 (.map H2 obD ob0)),(202,.box 24 [.mo 201 H2.length]),(613,.box 44 (stsD []::stD st0))] ?_;refine⟨⟨yK,⟨SubO.mp rfl,⟨rfl,Sub.mo rfl,rfl,trivial⟩,⟨rfl,SubL.same rfl⟩,yH⟩,rfl,rfl⟩,?_⟩;refine zK 800 ?_;refine zX (fun c7=>?_) (fun c7=>?_)
  ·
   exact absurd c7 de
  ·
   refine zJ (zA ?_);refine zB (yE zO [] [[],[],[],[1,2],[1,2,3],[1,2,3,4],(rgN 6),(rgN 7),(rgN 8),(rgN 8),(rgN 9),(rgN 11)] 1000 yX kr rfl ?_);refine zF ?_;refine zS _ (qX h v) rfl ?_;refine zF ?_;refine zS _ (hcut) rfl ?_;refine zf (zA (zB ?_));refine zB (yE zO [] [[],[0],[],[2],[0,1,2,3],(rgN 5),(rgN 6),(rgN 6),(rgN 8),(rgN 9),(rgN 10),(rgN 6),(rgN 6),[0,1,2,3,4,5,6,7,8,11,12],[0,1,2,3,4,5,6,7,8,11,12,13],[0,1,2,3,4,5,6,7,8,11,12,13,14],(rgN 6),[0,1,2,3,4,5,16],[0,1,2,3,4,5,6,7,8,11,12,13,14,15,16,17],(rgN 19),(rgN 20)] 1100 yX kr rfl ?_);refine zF ?_;refine xY (fun hs=>?_) (fun hs=>?_)
   rotate_left
   ·exfalso;simp at hs;omega
   refine zF ?_;first|refine vR _ (qX H2 v) rfl rfl ?_|refine qI0 _ (fun _=>qX H2 v) rfl rfl ?_
   refine zF ?_;refine yP _ (fun hg13=>qX h v) rfl ?_;refine zF ?_;refine zC (zA (zX (fun c10=>?_) (fun c10=>?_)))
   ·
    first|(exfalso;omega)|(exfalso;simp at c10;omega)
   ·
    refine zJ (zA (zK 1300 ?_));refine zB ?_;refine zB (zE zO [] 1400 rfl ?_);refine zF ?_;refine zS _ (qX h v) rfl ?_;refine zf (zA (zQ ?_));refine yB (ι:={k:Nat//k<=(yD h v).items.length}) [3,4,5,7,9,11,12,91,92] [0,1,201,202] 1450 (fun x=>[(93,.v (.int .i64 x.1)),(13,.v (.int .i64 (drI PL x.1).length))]) (fun _=>[]) (fun x=>(yD h v).items.length-x.1) ⟨0,Aq _⟩ ?_;refine⟨⟨⟨u19 rfl,u19 rfl,yK⟩,yH,rfl,rfl⟩,fun x=>?_⟩;have hkx:x.1<=(yD h v).items.length:=x.2;have hdle:=kR0 PL x.1;refine zK 1500 ?_;refine zB (zX (fun c14=>?_) (fun c14=>?_))
    ·
     refine zJ (zA (zB (zQ (zK 1600 ?_))));refine zB ?_;refine zB (zE zO [] 1700 rfl ?_);refine zF ?_;refine zS _ (slicesIndexI_ok PL (x.1:Nat) om) rfl ?_;refine zF ?_;refine zC (zA (zK 1800 ?_));refine zT rfl (fun c17=>?_) (fun c17=>?_)
     ·have c17:((x.1:Nat):Int)∈PL:=by
       rcases Decidable.em (((x.1:Nat):Int)∈PL)with h8|h8
       ·exact h8
       ·have h9:=c17;rw[kH0 h8]at h9;exact absurd h9 de
      obtain⟨i1,i2,i3⟩:=yA0 c17;have i4:T.getD (ixN PL ((x.1:Nat):Int)).toNat vl0=((yD h v).items.getD x.1 vl0):=by
       rw[hT,<-hPL,tkL_get _ _ _ _ i2,i3,As]
      refine zB ?_;refine zB (yE zO [] [[],[],[0,1],[0,1,2],[],(rgN 5),(rgN 6)] 1900 yX kr rfl ?_);repeat(first|refine zH ?_|refine zU (by first|exact⟨i1,by omega⟩|exact Dl) ?_)
      refine zS _ (vD _ _) rfl ?_;repeat(first|refine zH ?_|refine zU (by first|exact⟨i1,by omega⟩|exact Dl) ?_)
      refine zC (zA (zX (fun c18=>?_) (fun c18=>?_)))
      ·
       exfalso;simp at c18;exact c18 i4
      ·
       refine zJ (zA (yF (zZ (zW (zA (yO zO [] 2400 ?_))))));exact zR ⟨x.1+1,by omega⟩ ⟨⟨u19 (by push_cast;rfl),u19 (by rw[wY,Ag c17,Ae];simp),yK⟩,yH,rfl,rfl⟩ (by show(yD h v).items.length-(x.1+1)<(yD h v).items.length-x.1;omega)
     ·have c17:¬((x.1:Nat):Int)∈PL:=fun h8=>by have h9:=c17;have h7:=(yA0 h8).1;simp at h9;omega
      obtain⟨d1,d2⟩:=drL_at (z:=vl0) (l:=(yD h v).items) c14 c17;rw[<-hDi]at d1 d2;refine zJ (zA (zB ?_));refine zB (yE zO [] [[],[],[0,1],[0,1,2],[],(rgN 5),(rgN 6),[],(rgN 8),(rgN 9)] 2100 yX kr rfl ?_);repeat(first|refine zH ?_|refine kX0 ?_)
      refine vR _ (qX H2 v) rfl rfl ?_;repeat(first|refine zH ?_|refine kX0 ?_)
      refine zS _ (vD _ _) rfl ?_;repeat(first|refine zH ?_|refine kX0 ?_)
      refine zC (zA (zX (fun c20=>?_) (fun c20=>?_)))
      ·
       exfalso;simp at c20;exact c20 d2
      ·
       refine zJ (zA (yO zO [] 2300 ?_));refine zL (zA (yO zO [] 2400 ?_));exact zR ⟨x.1+1,by omega⟩ ⟨⟨u19 (by push_cast;rfl),u19 (by rw[wY,Aa c17,Ae];simp),yK⟩,yH,rfl,rfl⟩ (by show(yD h v).items.length-(x.1+1)<(yD h v).items.length-x.1;omega)
    ·
     refine yF (zZ (yA (zW (zA (zB (zK 2500 ?_))))));refine zT rfl (fun c24=>?_) (fun c24=>?_)
     ·
      refine zK 2600 ?_;refine zN (zM ?_);exact u1 rfl (u4 _)
     ·have c24:¬qS r=1:=by have h9:=c24;simpa using h9
      obtain⟨hc1,hc2⟩:=hbk c24;have s3:=opSetSlice2_G h v p q r v T hh hvv.2 hkl hp hq hr hk2 hk om hc1;rw[hc2,show({yD h v with items:=(yD h v).items}:Ob)=h.getD v.r.toNat ob0 from eo,set_same' hvl.2]at s3;refine zJ (zA ?_);refine zB (zE zO [1126] 2700 rfl ?_);refine zF ?_;refine vS _ _ (kV0 h hh) rfl ?_;refine zf (zA ?_);refine jJ [3,4,5,9,17] [0,1,2501,2502] 2710 [] [(2501,.mrow 36 10 (.map h obD ob0)),(2502,.box 24 [.mo 2501 h.length])] ?_;refine⟨⟨yK,⟨SubO.mp rfl,⟨rfl,Sub.mo rfl,rfl,trivial⟩,yH⟩,rfl,rfl⟩,?_⟩;refine zB (zE zO [1131] 2800 rfl ?_);refine zF ?_;refine vS _ _ (s3) (xJ0 _ _ _) ?_;refine zf (zA ?_);refine jJ [3,17,18] [0,2501,2502,2715] 2810 [] [(2501,.mrow 36 10 (.map h obD ob0)),(2502,.box 24 [.mo 2501 h.length]),(2715,.box 44 (stsD []::stD st0))] ?_;refine⟨⟨yK,⟨SubO.mp rfl,⟨rfl,Sub.mo rfl,rfl,trivial⟩,⟨rfl,SubL.same rfl⟩,yH⟩,rfl,rfl⟩,?_⟩;refine zB (zE zO [] 2900 rfl ?_);repeat(first|refine zH ?_|refine xZ ?_|refine gX0 ?_|refine gY0 ?_)
      first|refine vR _ (dC h h hhl hhl) rfl rfl ?_|refine qI0 _ (fun _=>dC h h hhl hhl) rfl rfl ?_
      repeat(first|refine zH ?_|refine xZ ?_|refine gX0 ?_|refine gY0 ?_)
      refine zC (zA (zN ?_));exact u1 rfl (u5 (by rw[shS_self];rfl))
open Go.ChangeShapes Go.WideShapes Go.ChangeAt Go.RowKit Go.Deep
theorem jX0{H:Type}{d:DataW H}{l:List (DataW H)}(h:d∈l):Rows.uptoBulk d<=Rows.uptoBulkAll l:=by
 induction l with
 |nil=>cases h
 |cons x r ih=>
  simp only[Rows.uptoBulkAll]
  cases Bc.1 h with
  |inl e=>subst e;omega
  |inr e=>have:=ih e;omega
theorem bulk_one{H:Type}(d:DataW H):1<=Rows.uptoBulk d:=by
 cases d with
 |lit l=>cases l<;>simp[Rows.uptoBulk]
 |nil=>simp[Rows.uptoBulk]
 |ptr d=>simp[Rows.uptoBulk]
 |slice elems spare=>simp[Rows.uptoBulk]
 |agg parts=>simp[Rows.uptoBulk]
 |iface t d=>simp[Rows.uptoBulk]
 |map entries=>simp[Rows.uptoBulk]
 |held h=>simp[Rows.uptoBulk]
theorem bulk_length{H:Type}(l:List (DataW H)):l.length<=Rows.uptoBulkAll l:=by
 induction l with
 |nil=>simp[Rows.uptoBulkAll]
 |cons x r ih=>have:=bulk_one x;simp only[Rows.uptoBulkAll,Ak];omega
theorem yY{H:Type}{l:List (DataW H×List MemPlace)}{i:Nat}{y:DataW H×List MemPlace}(h:l[i]?=some y){n:Nat}(hn:Rows.uptoBulk (DataW.agg (l.map (·.1)))<=n):Rows.uptoBulk y.1<=n:=by
 have h1:y.1∈l.map (·.1):=Bu.2 ⟨y,Aw h,rfl⟩;have h2:=jX0 h1;simp only[Rows.uptoBulk]at hn;omega
def sW(W:World):Sb:=⟨fun b _=>b<W.heap.size,fun b _=>b<W.heap.size,fun _ _ h=>h⟩
def I64(x:Int):Prop:= -9223372036854775808<=x/\x<=9223372036854775807
theorem i64_wf{x:Int}(h:(Lit.int .i64 x).wf=true):I64 x:=by
 simp[Lit.wf]at h;have h1:IntKind.i64.min= -9223372036854775808:=by decide
 have h2:IntKind.i64.max=9223372036854775807:=by decide
 unfold I64;omega
theorem u32_wf{x:Int}(h:(Lit.int .u32 x).wf=true):0<=x/\x<4294967296:=by
 simp[Lit.wf]at h;have h1:IntKind.u32.min=0:=by decide
 have h2:IntKind.u32.max=4294967295:=by decide
 omega
def Opn{H:Type}(enc:TypeId×Value->H)(P:Program)(W:World)(t:TypeId){α:Type}(f:α->List D)(Q:α->Nat->Prop):Prop:=
 ∀(fuel:Nat)(cs:List Value)(d:DataW H)(ps:List MemPlace),cs.length=P.cellsOf t->DataW.trod enc P W 0 (fun _=>true) true fuel t cs=some (d,ps)->
  ∃x,AllV W (sW W) (D.pvs (f x)) cs/\(∀c∈cs,c.oneCell'=true)/\∀n,Rows.uptoBulk d<=n->Q x n
section
variable{H:Type}{enc:TypeId×Value->H}{P:Program}{W:World}
theorem kL{c:Value}(h:c.oneCell'=true):∀x∈[c],x.oneCell'=true:=fun x hx=>by rw[List.mem_singleton]at hx;rw[hx];exact h
theorem Opn.int{t:TypeId}(ht:P.underlying t=some (.int .i64)):Opn enc P W t iD (fun x _=>I64 x):=by
 intro fuel cs d ps _ h;obtain⟨k,rfl,_,wf⟩:=DataW.trod_int ht h;exact⟨k,⟨rfl,trivial⟩,kL rfl,fun _ _=>i64_wf wf⟩
theorem Opn.u32{t:TypeId}(ht:P.underlying t=some (.int .u32)):Opn enc P W t uD (fun x _=>x<4294967296):=by
 intro fuel cs d ps _ h;obtain⟨k,rfl,_,wf⟩:=DataW.trod_int ht h;have h1:=u32_wf wf;refine⟨k.toNat,⟨?_,trivial⟩,kL rfl,fun _ _=>by omega⟩;show Value.int .u32 k= .int .u32 (k.toNat:Nat);rw[Int.toNat_of_nonneg h1.1]
theorem Opn.bool{t:TypeId}(ht:P.underlying t=some .bool):Opn enc P W t (fun b:Bool=>[.v (.bool b)]) (fun _ _=>True):=by
 intro fuel cs d ps _ h;obtain⟨k,rfl,_⟩:=DataW.trod_bool ht h;exact⟨k,⟨rfl,trivial⟩,kL rfl,fun _ _=>trivial⟩
theorem Opn.str{t:TypeId}(ht:P.underlying t=some .string):Opn enc P W t sD (fun s n=>s.size<=n):=by
 intro fuel cs d ps _ h;obtain⟨k,rfl,hx,_⟩:=DataW.trod_string ht h;refine⟨k,⟨rfl,trivial⟩,kL rfl,fun n hn=>?_⟩;simp only[Prod.mk.injEq]at hx;rw[hx.1]at hn;simp only[Rows.uptoBulk]at hn;have e:k.data.toList.length=k.size:=by rw[Cz];rfl
 omega
theorem Opn.sl{α:Type}{f:α->List D}{Q:α->Nat->Prop}{t e:TypeId}{sz:Nat}(e0:α)(ht:P.underlying t=some (.slice e))(hc:P.cellsOf e=sz)(hz:0<sz)(he:Opn enc P W e f Q):
  Opn enc P W t (fun l=>[.sl false sz l f e0]) (fun l n=>l.length<=n/\∀x∈l,Q x n):=by
 intro fuel cs d ps _ h;rcases open_slice ht h with⟨rfl,hx⟩|⟨a,len,cap,m,n,D',Pl,rfl,_,hl,hm,hmm,hx,hel⟩
 ·exact⟨[],⟨PV.sl_nil,trivial⟩,kL rfl,fun _ _=>⟨Aq _,fun x hx=>by cases hx⟩⟩
 ·simp only[if_true]at hmm;subst hmm;have hq:∀i,i<len->∃x:α,∃cs',W.cells? 0 (a.add (i*sz)) sz=some cs'/\AllV W (sW W) (D.pvs (f x)) cs'/\(∀c∈cs',c.oneCell'=true)/\∀n,Rows.uptoBulk (D' i)<=n->Q x n:=fun i hi=>by
   obtain⟨cs',h1,h2⟩:=hel i om;rw[hc]at h1;obtain⟨_,hlen,_⟩:=World.cells?_some h1;obtain⟨x,hx1,hx2,hx3⟩:=he n cs' (D' i) (Pl i) om h2;exact⟨x,cs',h1,hx1,hx2,hx3⟩
  obtain⟨g,hg⟩:∃g:Nat->α,∀i,i<len->∃cs',W.cells? 0 (a.add (i*sz)) sz=some cs'/\AllV W (sW W) (D.pvs (f (g i))) cs'/\(∀c∈cs',c.oneCell'=true)/\∀n,Rows.uptoBulk (D' i)<=n->Q (g i) n:=
   ⟨fun i=>if h:i<len then Classical.choose (hq i h)else e0,fun i hi=>by simp only[dif_pos hi];exact Classical.choose_spec (hq i hi)⟩
  have hrl:(((List.range len).map g).map fun a=>D.pvs (f a)).length=len:=by simp
  refine⟨(List.range len).map g,⟨⟨some a,m,?_,?_,?_,?_,?_⟩,trivial⟩,kL rfl,fun n hn=>?_⟩
  ·show Value.slice (some a) len m=Value.slice (some a) (((List.range len).map g).map fun a=>D.pvs (f a)).length m;rw[hrl]
  ·show(((List.range len).map g).map fun a=>D.pvs (f a)).length<=m;rw[hrl];exact hl
  ·have:maxLen=9223372036854775807:=by decide
   omega
  ·intro row hrow;have hrow:row∈((List.range len).map g).map fun a=>D.pvs (f a):=hrow;rw[Bz]at hrow;obtain⟨i,hi,rfl⟩:=Bu.1 hrow;obtain⟨cs',h1,h2,-⟩:=hg i (Cx.1 hi);have h3:=h2.length;obtain⟨_,h4,_⟩:=World.cells?_some h1;show(D.pvs (f (g i))).length=sz;omega
  ·intro i row hrow;have hrow:(((List.range len).map g).map fun a=>D.pvs (f a))[i]?=some row:=hrow;rw[Bz,Bf]at hrow;obtain⟨j,hj,rfl⟩:=Option.map_eq_some_iff.1 hrow;have hi:i<len:=by have:=(Ac.1 hj).1;simpa using this
   rw[List.getElem?_range hi]at hj
   cases hj;obtain⟨cs',h1,h2,h3,-⟩:=hg i hi;obtain⟨_,h4,h5⟩:=World.cells?_some h1;obtain⟨b,off,spot⟩:=a
   cases spot with
   |some sp=>
    obtain⟨cs0,k1,-⟩:=hg 0 om;obtain⟨_,k4,k5⟩:=World.cells?_some k1;have h6:=k5 0 hz;rw[Af om]at h6;have:=World.cell?_spot h6;simp[Addr.add]at this
   |none=>
    refine⟨b,off,rfl,fun j d hd=>?_⟩;obtain⟨v,hv,hp⟩:=h2.get hd;have hj:j<cs'.length:=(Ac.1 hv).1;have h6:=h5 j om;rw[hv]at h6;have h7:W.cell? ⟨b,off+i*sz+j,none⟩=some v:=by rw[add_plain,add_plain]at h6;exact h6
    exact⟨v,h7,(World.block_lt_of_cell? _ _ h7:b<W.heap.size),hp,h3 v (Aw hv)⟩
  ·simp only[Prod.mk.injEq]at hx;rw[hx.1]at hn;simp only[Rows.uptoBulk]at hn;have h1:=bulk_length ((List.range len).map D');simp only[Ao,List.length_range]at h1;refine⟨by simp;omega,fun x hx=>?_⟩;obtain⟨i,hi,rfl⟩:=Bu.1 hx;obtain⟨cs',-,-,-,h4⟩:=hg i (Cx.1 hi);exact h4 n (by have:=jX0 (d:=D' i) (l:=(List.range len).map D') (Bu.2 ⟨i,hi,rfl⟩);omega)
end
theorem list5{α:Type}{l:List α}(h:l.length=5):∃c0 c1 c2 c3 c4,l=[c0,c1,c2,c3,c4]:=by
 match l,h with
 |[c0,c1,c2,c3,c4],_=>exact⟨c0,c1,c2,c3,c4,rfl⟩
theorem list7{α:Type}{l:List α}(h:l.length=7):∃c0 c1 c2 c3 c4 c5 c6,l=[c0,c1,c2,c3,c4,c5,c6]:=by
 match l,h with
 |[c0,c1,c2,c3,c4,c5,c6],_=>exact⟨c0,c1,c2,c3,c4,c5,c6,rfl⟩
theorem kG0{α:Type}{l:List α}(h:l.length=10):∃c0 c1 c2 c3 c4 c5 c6 c7 c8 c9,l=[c0,c1,c2,c3,c4,c5,c6,c7,c8,c9]:=by
 match l,h with
 |[c0,c1,c2,c3,c4,c5,c6,c7,c8,c9],_=>exact⟨c0,c1,c2,c3,c4,c5,c6,c7,c8,c9,rfl⟩
theorem jB{W:World}{s:Sb}{d:D}{c:Value}(h:AllV W s (D.pvs [d]) [c]):d.pv.p W s c:=h.1
section
variable{H:Type}{enc:TypeId×Value->H}{W:World}
def intD(p:Bool×List Nat):List D:=[.v (.bool p.1),usD p.2]
set_option maxRecDepth 100000 in
theorem Opn.bigI:Opn enc Tryz.prog W 27 intD (fun p n=>p.2.length<=n/\∀x∈p.2,x<4294967296):=by
 intro fuel cs d ps hl h;have e4:Tryz.prog.cellsOf 4=1:=by kernel_rfl
 have e22:Tryz.prog.cellsOf 25=1:=by kernel_rfl
 have eI:Tryz.prog.cellsOf 27=2:=by kernel_rfl
 rw[eI]at hl
 match cs,hl with
 |[c0,c1],_=>
  obtain⟨xs,n1,_,hx,_,hlen,hg⟩:=DataW.trod_struct Tryz.underlying27 h
  match xs,hlen with
  |[y0,y1],_=>
   have g0:DataW.trod enc Tryz.prog W 0 (fun _=>true) true n1 4 (([c0,c1].drop 0).take (Tryz.prog.cellsOf 4))=some y0:=hg 0 _ rfl;rw[e4]at g0
   replace g0:DataW.trod enc Tryz.prog W 0 (fun _=>true) true n1 4 [c0]=some y0:=g0
   have g1:DataW.trod enc Tryz.prog W 0 (fun _=>true) true n1 25 (([c0,c1].drop 1).take (Tryz.prog.cellsOf 25))=some y1:=hg 1 _ rfl;rw[e22]at g1
   replace g1:DataW.trod enc Tryz.prog W 0 (fun _=>true) true n1 25 [c1]=some y1:=g1
   obtain⟨x0,a0,o0,q0⟩:=Opn.bool Tryz.underlying4 _ _ y0.1 y0.2 (by rw[e4];rfl) g0;obtain⟨x1,a1,o1,q1⟩:=Opn.sl 0 Tryz.underlying25 (sz:=1) kr de (Opn.u32 Tryz.underlying101) _ _ y1.1 y1.2 (by rw[e22];rfl) g1;simp only[Prod.mk.injEq]at hx;refine⟨(x0,x1),⟨jB a0,jB a1,trivial⟩,fun c hc=>?_,fun n hn=>?_⟩
   ·simp only[Bc,List.not_mem_nil,or_false]at hc;rcases hc with rfl|rfl
    ·exact o0 _ (by simp)
    ·exact o1 _ (by simp)
   ·rw[hx.1]at hn;exact q1 n (yY (i:=1) (y:=y1) rfl hn)
set_option maxRecDepth 100000 in
theorem Opn.val:Opn enc Tryz.prog W 29 vlD (fun v n=>n<=1048576->VlIn v):=by
 intro fuel cs d ps hl h;have e3:Tryz.prog.cellsOf 3=1:=by kernel_rfl
 have e9:Tryz.prog.cellsOf 9=1:=by kernel_rfl
 have e24:Tryz.prog.cellsOf 27=2:=by kernel_rfl
 have eV:Tryz.prog.cellsOf 29=7:=by kernel_rfl
 rw[eV]at hl;obtain⟨c0,c1,c2,c3,c4,c5,c6,rfl⟩:=list7 hl;obtain⟨xs,n1,_,hx,_,hlen,hg⟩:=DataW.trod_struct Tryz.underlying29 h;obtain⟨y0,y1,y2,y3,y4,rfl⟩:=list5 hlen;have g0:DataW.trod enc Tryz.prog W 0 (fun _=>true) true n1 3 (([c0,c1,c2,c3,c4,c5,c6].drop 0).take (Tryz.prog.cellsOf 3))=some y0:=hg 0 _ rfl;rw[e3]at g0
 replace g0:DataW.trod enc Tryz.prog W 0 (fun _=>true) true n1 3 [c0]=some y0:=g0
 have g1:DataW.trod enc Tryz.prog W 0 (fun _=>true) true n1 27 (([c0,c1,c2,c3,c4,c5,c6].drop 1).take (Tryz.prog.cellsOf 27))=some y1:=hg 1 _ rfl;rw[e24]at g1
 replace g1:DataW.trod enc Tryz.prog W 0 (fun _=>true) true n1 27 [c1,c2]=some y1:=g1
 have g2:DataW.trod enc Tryz.prog W 0 (fun _=>true) true n1 27 (([c0,c1,c2,c3,c4,c5,c6].drop 3).take (Tryz.prog.cellsOf 27))=some y2:=hg 2 _ rfl;rw[e24]at g2
 replace g2:DataW.trod enc Tryz.prog W 0 (fun _=>true) true n1 27 [c3,c4]=some y2:=g2
 have g3:DataW.trod enc Tryz.prog W 0 (fun _=>true) true n1 9 (([c0,c1,c2,c3,c4,c5,c6].drop 5).take (Tryz.prog.cellsOf 9))=some y3:=hg 3 _ rfl;rw[e9]at g3
 replace g3:DataW.trod enc Tryz.prog W 0 (fun _=>true) true n1 9 [c5]=some y3:=g3
 have g4:DataW.trod enc Tryz.prog W 0 (fun _=>true) true n1 3 (([c0,c1,c2,c3,c4,c5,c6].drop 6).take (Tryz.prog.cellsOf 3))=some y4:=hg 4 _ rfl;rw[e3]at g4
 replace g4:DataW.trod enc Tryz.prog W 0 (fun _=>true) true n1 3 [c6]=some y4:=g4
 obtain⟨x0,a0,o0,q0⟩:=Opn.int Tryz.underlying3 _ _ y0.1 y0.2 (by rw[e3];rfl) g0;obtain⟨x1,a1,o1,q1⟩:=Opn.bigI _ _ y1.1 y1.2 (by rw[e24];rfl) g1;obtain⟨x2,a2,o2,q2⟩:=Opn.bigI _ _ y2.1 y2.2 (by rw[e24];rfl) g2;obtain⟨x3,a3,o3,q3⟩:=Opn.str Tryz.underlying9 _ _ y3.1 y3.2 (by rw[e9];rfl) g3;obtain⟨x4,a4,o4,q4⟩:=Opn.int Tryz.underlying3 _ _ y4.1 y4.2 (by rw[e3];rfl) g4;simp only[Prod.mk.injEq]at hx;refine⟨⟨x0,x1.1,x1.2,x2.1,x2.2,x3,x4⟩,⟨jB a0,a1.1,a1.2.1,a2.1,a2.2.1,jB a3,jB a4,trivial⟩,fun c hc=>?_,fun n hn hn2=>?_⟩
 ·simp only[Bc,List.not_mem_nil,or_false]at hc;rcases hc with rfl|rfl|rfl|rfl|rfl|rfl|rfl
  ·exact o0 _ (by simp)
  ·exact o1 _ (by simp)
  ·exact o1 _ (by simp)
  ·exact o2 _ (by simp)
  ·exact o2 _ (by simp)
  ·exact o3 _ (by simp)
  ·exact o4 _ (by simp)
 ·rw[hx.1]at hn;have b0:=q0 n (yY (i:=0) (y:=y0) rfl hn);have b1:=q1 n (yY (i:=1) (y:=y1) rfl hn);have b2:=q2 n (yY (i:=2) (y:=y2) rfl hn);have b3:=q3 n (yY (i:=3) (y:=y3) rfl hn);have b4:=q4 n (yY (i:=4) (y:=y4) rfl hn);exact⟨b0.1,b0.2,b4.1,b4.2,b1.2,b2.2,by show x1.2.length<=_;omega,by show x2.2.length<=_;omega,by show x3.size<=_;omega⟩
set_option maxRecDepth 100000 in
theorem Opn.obj:Opn enc Tryz.prog W 36 obD (fun o n=>n<=1048576->ObIn o):=by
 intro fuel cs d ps hl h;have e3:Tryz.prog.cellsOf 3=1:=by kernel_rfl
 have e9:Tryz.prog.cellsOf 9=1:=by kernel_rfl
 have eI:Tryz.prog.cellsOf 33=1:=by kernel_rfl
 have eS:Tryz.prog.cellsOf 34=1:=by kernel_rfl
 have eV:Tryz.prog.cellsOf 32=1:=by kernel_rfl
 have eO:Tryz.prog.cellsOf 36=10:=by kernel_rfl
 rw[eO]at hl;obtain⟨c0,c1,c2,c3,c4,c5,c6,c7,c8,c9,rfl⟩:=kG0 hl;obtain⟨xs,n1,_,hx,_,hlen,hg⟩:=DataW.trod_struct Tryz.underlying36 h;obtain⟨y0,y1,y2,y3,y4,y5,y6,y7,y8,y9,rfl⟩:=kG0 hlen;have g0:DataW.trod enc Tryz.prog W 0 (fun _=>true) true n1 3 (([c0,c1,c2,c3,c4,c5,c6,c7,c8,c9].drop 0).take (Tryz.prog.cellsOf 3))=some y0:=hg 0 _ rfl;rw[e3]at g0
 replace g0:DataW.trod enc Tryz.prog W 0 (fun _=>true) true n1 3 [c0]=some y0:=g0
 have g1:DataW.trod enc Tryz.prog W 0 (fun _=>true) true n1 9 (([c0,c1,c2,c3,c4,c5,c6,c7,c8,c9].drop 1).take (Tryz.prog.cellsOf 9))=some y1:=hg 1 _ rfl;rw[e9]at g1
 replace g1:DataW.trod enc Tryz.prog W 0 (fun _=>true) true n1 9 [c1]=some y1:=g1
 have g2:DataW.trod enc Tryz.prog W 0 (fun _=>true) true n1 3 (([c0,c1,c2,c3,c4,c5,c6,c7,c8,c9].drop 2).take (Tryz.prog.cellsOf 3))=some y2:=hg 2 _ rfl;rw[e3]at g2
 replace g2:DataW.trod enc Tryz.prog W 0 (fun _=>true) true n1 3 [c2]=some y2:=g2
 have g3:DataW.trod enc Tryz.prog W 0 (fun _=>true) true n1 33 (([c0,c1,c2,c3,c4,c5,c6,c7,c8,c9].drop 3).take (Tryz.prog.cellsOf 33))=some y3:=hg 3 _ rfl;rw[eI]at g3
 replace g3:DataW.trod enc Tryz.prog W 0 (fun _=>true) true n1 33 [c3]=some y3:=g3
 have g4:DataW.trod enc Tryz.prog W 0 (fun _=>true) true n1 33 (([c0,c1,c2,c3,c4,c5,c6,c7,c8,c9].drop 4).take (Tryz.prog.cellsOf 33))=some y4:=hg 4 _ rfl;rw[eI]at g4
 replace g4:DataW.trod enc Tryz.prog W 0 (fun _=>true) true n1 33 [c4]=some y4:=g4
 have g5:DataW.trod enc Tryz.prog W 0 (fun _=>true) true n1 34 (([c0,c1,c2,c3,c4,c5,c6,c7,c8,c9].drop 5).take (Tryz.prog.cellsOf 34))=some y5:=hg 5 _ rfl;rw[eS]at g5
 replace g5:DataW.trod enc Tryz.prog W 0 (fun _=>true) true n1 34 [c5]=some y5:=g5
 have g6:DataW.trod enc Tryz.prog W 0 (fun _=>true) true n1 32 (([c0,c1,c2,c3,c4,c5,c6,c7,c8,c9].drop 6).take (Tryz.prog.cellsOf 32))=some y6:=hg 6 _ rfl;rw[eV]at g6
 replace g6:DataW.trod enc Tryz.prog W 0 (fun _=>true) true n1 32 [c6]=some y6:=g6
 have g7:DataW.trod enc Tryz.prog W 0 (fun _=>true) true n1 32 (([c0,c1,c2,c3,c4,c5,c6,c7,c8,c9].drop 7).take (Tryz.prog.cellsOf 32))=some y7:=hg 7 _ rfl;rw[eV]at g7
 replace g7:DataW.trod enc Tryz.prog W 0 (fun _=>true) true n1 32 [c7]=some y7:=g7
 have g8:DataW.trod enc Tryz.prog W 0 (fun _=>true) true n1 3 (([c0,c1,c2,c3,c4,c5,c6,c7,c8,c9].drop 8).take (Tryz.prog.cellsOf 3))=some y8:=hg 8 _ rfl;rw[e3]at g8
 replace g8:DataW.trod enc Tryz.prog W 0 (fun _=>true) true n1 3 [c8]=some y8:=g8
 have g9:DataW.trod enc Tryz.prog W 0 (fun _=>true) true n1 3 (([c0,c1,c2,c3,c4,c5,c6,c7,c8,c9].drop 9).take (Tryz.prog.cellsOf 3))=some y9:=hg 9 _ rfl;rw[e3]at g9
 replace g9:DataW.trod enc Tryz.prog W 0 (fun _=>true) true n1 3 [c9]=some y9:=g9
 obtain⟨x0,a0,o0,q0⟩:=Opn.int Tryz.underlying3 _ _ y0.1 y0.2 (by rw[e3];rfl) g0;obtain⟨x1,a1,o1,q1⟩:=Opn.str Tryz.underlying9 _ _ y1.1 y1.2 (by rw[e9];rfl) g1;obtain⟨x2,a2,o2,q2⟩:=Opn.int Tryz.underlying3 _ _ y2.1 y2.2 (by rw[e3];rfl) g2;obtain⟨x3,a3,o3,q3⟩:=Opn.sl 0 Tryz.underlying33 (sz:=1) kr de (Opn.int Tryz.underlying3) _ _ y3.1 y3.2 (by rw[eI];rfl) g3;obtain⟨x4,a4,o4,q4⟩:=Opn.sl 0 Tryz.underlying33 (sz:=1) kr de (Opn.int Tryz.underlying3) _ _ y4.1 y4.2 (by rw[eI];rfl) g4;obtain⟨x5,a5,o5,q5⟩:=Opn.sl ByteArray.empty Tryz.underlying34 (sz:=1) kr de (Opn.str Tryz.underlying9) _ _ y5.1 y5.2 (by rw[eS];rfl) g5;obtain⟨x6,a6,o6,q6⟩:=Opn.sl vl0 Tryz.underlying32 (sz:=7) kr de Opn.val _ _ y6.1 y6.2 (by rw[eV];rfl) g6;obtain⟨x7,a7,o7,q7⟩:=Opn.sl vl0 Tryz.underlying32 (sz:=7) kr de Opn.val _ _ y7.1 y7.2 (by rw[eV];rfl) g7;obtain⟨x8,a8,o8,q8⟩:=Opn.int Tryz.underlying3 _ _ y8.1 y8.2 (by rw[e3];rfl) g8;obtain⟨x9,a9,o9,q9⟩:=Opn.int Tryz.underlying3 _ _ y9.1 y9.2 (by rw[e3];rfl) g9;simp only[Prod.mk.injEq]at hx;refine⟨⟨x0,x1,x2,x3,x4,x5,x6,x7,x8,x9⟩,⟨jB a0,jB a1,jB a2,jB a3,jB a4,jB a5,jB a6,jB a7,jB a8,jB a9,trivial⟩,fun c hc=>?_,fun n hn hn2=>?_⟩
 ·simp only[Bc,List.not_mem_nil,or_false]at hc;rcases hc with rfl|rfl|rfl|rfl|rfl|rfl|rfl|rfl|rfl|rfl
  ·exact o0 _ (by simp)
  ·exact o1 _ (by simp)
  ·exact o2 _ (by simp)
  ·exact o3 _ (by simp)
  ·exact o4 _ (by simp)
  ·exact o5 _ (by simp)
  ·exact o6 _ (by simp)
  ·exact o7 _ (by simp)
  ·exact o8 _ (by simp)
  ·exact o9 _ (by simp)
 ·rw[hx.1]at hn;have b0:=q0 n (yY (i:=0) (y:=y0) rfl hn);have b1:=q1 n (yY (i:=1) (y:=y1) rfl hn);have b2:=q2 n (yY (i:=2) (y:=y2) rfl hn);have b3:=q3 n (yY (i:=3) (y:=y3) rfl hn);have b4:=q4 n (yY (i:=4) (y:=y4) rfl hn);have b5:=q5 n (yY (i:=5) (y:=y5) rfl hn);have b6:=q6 n (yY (i:=6) (y:=y6) rfl hn);have b7:=q7 n (yY (i:=7) (y:=y7) rfl hn);have b8:=q8 n (yY (i:=8) (y:=y8) rfl hn);have b9:=q9 n (yY (i:=9) (y:=y9) rfl hn)
  exact⟨b0,b2,b8,b9,by show x1.size<=_;omega,by show x3.length<=_;omega,by show x4.length<=_;omega,by show x5.length<=_;omega,by show x6.length<=_;omega,by show x7.length<=_;omega,
   fun s hs=>by have:=b5.2 s hs;omega,fun v hv=>b6.2 v hv hn2,fun v hv=>b7.2 v hv hn2⟩
def hpL(h:List Ob):List D:=[.sl false 10 h obD ob0]
set_option maxRecDepth 100000 in
theorem Opn.heap:Opn enc Tryz.prog W 24 hpL (fun h n=>n<=1048576->HpIn h):=by
 intro fuel cs d ps hl h;have eH:Tryz.prog.cellsOf 24=1:=by kernel_rfl
 have eO:Tryz.prog.cellsOf 22=1:=by kernel_rfl
 rw[eH]at hl
 match cs,hl with
 |[c0],_=>
  obtain⟨xs,n1,_,hx,_,hlen,hg⟩:=DataW.trod_struct Tryz.underlying24 h
  match xs,hlen with
  |[y0],_=>
   have g0:DataW.trod enc Tryz.prog W 0 (fun _=>true) true n1 22 (([c0].drop 0).take (Tryz.prog.cellsOf 22))=some y0:=hg 0 _ rfl;rw[eO]at g0
   replace g0:DataW.trod enc Tryz.prog W 0 (fun _=>true) true n1 22 [c0]=some y0:=g0
   obtain⟨x0,a0,o0,q0⟩:=Opn.sl ob0 Tryz.underlying22 (sz:=10) kr de Opn.obj _ _ y0.1 y0.2 (by rw[eO];rfl) g0;simp only[Prod.mk.injEq]at hx;refine⟨x0,a0,o0,fun n hn hn2=>?_⟩;rw[hx.1]at hn;have b0:=q0 n (yY (i:=0) (y:=y0) rfl hn);exact⟨fun o ho=>b0.2 o ho hn2,by omega⟩
theorem Opn.agg{P:Program}{α:Type}{f:α->List D}{Q:α->Nat->Prop}{t:TypeId}{fs:Array Field}{base:Nat}(ho:Opn enc P W t f Q)(ht:P.underlying t=some (.struct fs)){v:Value}{d:DataW H}{ps:List MemPlace}
  (hv:Value.okWide P W .any base t v) (h:DataW.Trod enc P W 0 (fun _=>true) true t v d ps):
  ∃x,(D.agg (f x)).pv.p W (sW W) v/\∀n,Rows.uptoBulk d<=n->Q x n:=by
 obtain⟨cs,rfl,hsz⟩:=okWide_struct ht hv;obtain⟨l⟩:=cs;obtain⟨fuel,hf⟩:=h;obtain⟨x,h1,-,h3⟩:=ho fuel l d ps hsz hf;exact⟨x,⟨l,rfl,h1⟩,h3⟩
end


open Go.ChangeShapes Go.WideShapes Go.ChangeAt Go.RowKit
theorem gP{H:Type}{enc:TypeId×Value->H}{P:Program}(hl:laidOutB P=true){W W':World}(hb:Below W.heap.size W W'):
  ∀(ts:List TypeId)(vs:List Value)(ds:List (DataW H))(ps:List MemPlace),(∀t∈ts,P.readableRec t=true/\t<P.types.size)->
   DataW.TrodAll enc P W 0 (fun _=>true) true ts vs ds ps->DataW.TrodAll enc P W' 0 (fun b=>decide (b<W.heap.size)) true ts vs ds ps
 |[],[],[],ps,_,h=>h
 |t::ts,v::vs,d::ds,ps,hr,h=>by
  obtain⟨p,q,hp,hq,e⟩:=h;have lt:∀x∈p,x.block<W.heap.size:=by obtain⟨m,hm⟩:=hp;exact DataW.trod_lt m _ _ _ hm
  have ht:=hr t (by simp);exact⟨p,q,Below.trod hl ht.1 ht.2 hp hb lt,gP hl hb ts vs ds q (fun x hx=>hr x (by simp[hx])) hq,e⟩
 |[],[],_::_,_,_,h=>by simp[DataW.TrodAll]at h
 |[],_::_,_,_,_,h=>by simp[DataW.TrodAll]at h
 |_::_,[],_,_,_,h=>by simp[DataW.TrodAll]at h
 |_::_,_::_,[],_,_,h=>by simp[DataW.TrodAll]at h
open Go.ChangeShapes Go.WideShapes Go.ChangeAt Go.RowKit Go.Shelf
theorem Law_own:ownKnob Tryz.prog.godebug=none:=by kernel_rfl
theorem accept_same:(Rows.laid_unicode_utf8_acceptRanges:DataW Unit)=Lib.acceptData:=by kernel_rfl
theorem first_same:(Rows.laid_unicode_utf8_first:DataW Unit)=Lib.firstData:=by kernel_rfl
theorem space_same:(Rows.laid_strings_asciiSpace:DataW Unit)=Lib.tabData .u8 Lib.asciiSpaceTab:=by kernel_rfl
theorem pow_same:(Rows.laid_internal_strconv_uint64pow10:DataW Unit)=Lib.tabData .u64 Lib.pow10Tab:=by kernel_rfl
theorem vT0{W:World}(hL:laidMetH Tryz.prog Rows.operatorsSliceThenDeleteUptoRow.laid W):Lib.TabIs Tryz.prog W "internal/strconv.uint64pow10" .u64 Lib.pow10Tab:=by
 have h5:Lib.VarReads Tryz.prog W "internal/strconv.uint64pow10" Rows.laid_internal_strconv_uint64pow10:=Lib.laidMet.reads hL (.tail _ (.tail _ (.head _)));rw[pow_same]at h5;obtain⟨g,t,cs,fuel,p,hg,hty,hvar,hd⟩:=h5;obtain rfl:=Option.some.inj ((show Tryz.prog.globalNamed "internal/strconv.uint64pow10" =some 4 by kernel_rfl).symm.trans hg);obtain rfl:=Option.some.inj ((show(Tryz.prog.globals[4]?).map (·.type)=some 229 by kernel_rfl).symm.trans hty);have:=Lib.cells_of_tab Tryz.underlying229 Tryz.underlying167 kr kr hd;unfold Lib.TabIs;rw[hvar,<-this]
theorem Law_z{W:World}(hL:laidMetH Tryz.prog Rows.operatorsSliceThenDeleteUptoRow.laid W)(o:Nat)(ho:20<=o):W.cell? ⟨4,o,none⟩=none/\sW W 4 o:=by
 have h:=vT0 hL;have hg:Tryz.prog.globalNamed "internal/strconv.uint64pow10" =some 4:=by kernel_rfl
 refine⟨?_,?_⟩
 ·rw[World.var?_cell hg h o,Db];exact Dc (by rw[Ao,Lib.pow10Tab_length];exact ho)
 ·exact World.block_lt_of_cell? _ _ (h.cell hg 0 (by rw[Lib.pow10Tab_length];decide))
def qV0:List (DataW Unit)->List Value
 |[]=>[]
 | .lit (.int k n)::l=> .int k n::qV0 l
 |_::l=>undef::qV0 l
def mS0:DataW Unit->Array Value
 | .agg l=>(qV0 l).toArray
 | .slice l _=>(qV0 l).toArray
 |_=> #[]
theorem Law_glob{W:World}(hL:laidMetH Tryz.prog Rows.operatorsSliceThenDeleteUptoRow.laid W)(hs:W.ShapedOpen Tryz.prog):Glb W (sW W):=by
 have h3:Lib.VarReads Tryz.prog W "unicode/utf8.first" Rows.laid_unicode_utf8_first:=Lib.laidMet.reads hL (.tail _ (.tail _ (.tail _ (.tail _ (.tail _ (.tail _ (.head _)))))));have h4:Lib.VarReads Tryz.prog W "unicode/utf8.acceptRanges" Rows.laid_unicode_utf8_acceptRanges:=Lib.laidMet.reads hL (.tail _ (.tail _ (.tail _ (.head _))));have h5:Lib.VarReads Tryz.prog W "strings.asciiSpace" Rows.laid_strings_asciiSpace:=Lib.laidMet.reads hL (.tail _ (.tail _ (.tail _ (.tail _ (.tail _ (.head _))))));rw[first_same]at h3;rw[accept_same]at h4;rw[space_same]at h5;have hT:Lib.Utf8Tabs 1 2 W:=utf8Tabs_of_readsT (U8Types.of196 Tryz.laysValid) ⟨by kernel_rfl,by kernel_rfl,by kernel_rfl,by kernel_rfl,by kernel_rfl,by kernel_rfl,by kernel_rfl⟩ h3 h4;have hS:Lib.TabIs Tryz.prog W "strings.asciiSpace" .u8 Lib.asciiSpaceTab:=by
  obtain⟨g,t,cs,fuel,p,hg,hty,hvar,hd⟩:=h5;obtain rfl:=Option.some.inj ((show Tryz.prog.globalNamed "strings.asciiSpace" =some 0 by kernel_rfl).symm.trans hg);obtain rfl:=Option.some.inj ((show(Tryz.prog.globals[0]?).map (·.type)=some 180 by kernel_rfl).symm.trans hty);have:=Lib.cells_of_tab Tryz.underlying180 Tryz.underlying5 kr kr hd;unfold Lib.TabIs;rw[hvar,<-this]
 have hM:=Go.Proofs.cell_of_shapedOpen_int (g:=5) (t:=3) (zero:= #[.int .i64 0]) hs (Ar kr) kr rfl kr kr Tryz.underlying3;refine⟨fun b o=>W.cell? ⟨b,o,none⟩,⟨hM,fun c hc=>hT.1 c hc,fun i hi=>hT.2 i hi,fun c hc=>?_,fun i hi=>(vT0 hL).cell kr i (by rw[Lib.pow10Tab_length];exact hi)⟩,fun b o v hv=>⟨hv,World.block_lt_of_cell? _ _ hv⟩,fun b o h=>by cases h with|pow10 o ho=>exact Law_z hL _ ho⟩;show W.cell? ⟨0,c,none⟩=_;rw[hS.cell kr c (by rw[Lib.asciiSpaceTab_length];exact hc),Lib.asciiSpaceTab_at c hc]
noncomputable def Law_world (os:Os):World:=
 let N:=(World.settled Tryz.prog os).heap.size
 let w0:=World.holding Tryz.prog os ⟨#[.cells (Lib.whiteT.map fun(z:Nat)=>Value.int .u16 (z:Int)).toArray 238,.cells #[.slice (some ⟨N,0,none⟩) 7 7,.slice none 0 0,.int .i64 2] 235],#[],[]⟩
 let put (h:Array Obj) (g:Nat) (cs:Array Value):Array Obj:=h.modify g fun
  | .cells _ t frozen=> .cells cs t frozen
  |o=>o
 let h1:=put w0.heap 0 (Lib.asciiSpaceTab.map fun z=>Value.int .u8 z).toArray
 let h2:=put h1 1 (Lib.firstTab.map fun z=>Value.int .u8 z).toArray
 let h3:=put h2 2 ((List.range 16).flatMap fun i=>[Value.int .u8 (Lib.accLo i),Value.int .u8 (Lib.accHi i)]).toArray
 let h4:=put h3 3 #[.pointer (some ⟨N+1,0,none⟩)]
 let h5:=put h4 6 (mS0 Rows.laid_math_bits_deBruijn32tab)
 let h6:=put h5 7 (mS0 Rows.laid_math_bits_deBruijn64tab)
 let h7:=put h6 4 (mS0 Rows.laid_internal_strconv_uint64pow10)
 {w0 with heap:=h7}
def Law_arg:Array Value:= #[.agg #[.slice none 0 0],.agg #[.int .i64 0,.bool false,.slice none 0 0,.bool false,.slice none 0 0,.string ⟨#[]⟩,.int .i64 0],.agg #[.int .i64 0,.bool false,.slice none 0 0,.bool false,.slice none 0 0,.string ⟨#[]⟩,.int .i64 0,.int .i64 0,.bool false,.slice none 0 0,.bool false,.slice none 0 0,.string ⟨#[]⟩,.int .i64 0,.int .i64 0,.bool false,.slice none 0 0,.bool false,.slice none 0 0,.string ⟨#[]⟩,.int .i64 0]]
noncomputable abbrev N0:Nat:=(World.settled Tryz.prog default).heap.size
theorem Law_pc0(os:Os):LaidIn Tryz.prog ((Law_world os).forCall (fun _ _=>0) ⟨#[],Law_arg,[]⟩).memory ((Rows.operatorsSliceThenDeleteUptoRow.laid.drop 0).take 7) [6,7,4,2,3,N0,N0+1,0,1]:=
 LaidIn.of_run [6,7,4,2,3,N0,N0+1,0,1] 10 kr kr kr kr
theorem Law_met(os:Os):laidMet Tryz.prog Rows.operatorsSliceThenDeleteUptoRow.laid ((Law_world os).forCall (fun _ _=>0) ⟨#[],Law_arg,[]⟩).memory:=
 (Law_pc0 os).met
theorem Law_row(os:Os){H:Type}(enc:TypeId×Value->H):
  (Rows.OpenSpec.upto Rows.operatorsSliceThenDeleteSpec).preRow enc Tryz.prog Tryz.f3 Rows.operatorsSliceThenDeleteUptoRow.domain false Rows.operatorsSliceThenDeleteUptoRow.laid ((Law_world os).forCall (fun _ _=>0) ⟨#[],Law_arg,[]⟩).memory Law_arg:=by
 have hw:(DataW.whole enc Tryz.prog ((Law_world os).forCall (fun _ _=>0) ⟨#[],Law_arg,[]⟩).memory Tryz.f3.params.toList Rows.operatorsSliceThenDeleteSpec.vars false Law_arg.toList 8).map (fun x=>(x.1,x.2.1))=
   some ([.agg [.nil],.agg [.lit (.int .i64 0),.agg [.lit (.bool false),.nil],.agg [.lit (.bool false),.nil],.lit (.string []),.lit (.int .i64 0)],.agg [.agg [.lit (.int .i64 0),.agg [.lit (.bool false),.nil],.agg [.lit (.bool false),.nil],.lit (.string []),.lit (.int .i64 0)],.agg [.lit (.int .i64 0),.agg [.lit (.bool false),.nil],.agg [.lit (.bool false),.nil],.lit (.string []),.lit (.int .i64 0)],.agg [.lit (.int .i64 0),.agg [.lit (.bool false),.nil],.agg [.lit (.bool false),.nil],.lit (.string []),.lit (.int .i64 0)]]],[]):=by kernel_rfl
 obtain⟨⟨x1,x2,x3⟩,hx,hx1⟩:=Option.map_eq_some_iff.1 hw;simp only[Prod.mk.injEq]at hx1;obtain⟨rfl,rfl⟩:=hx1;exact OpenSpec.preRow_of_cond 8 hx kr (fun k hk=>by cases hk;kernel_rfl) kr (Law_met os)
theorem tN{w:World}{s:Sb}:∀{l r:List PV}{a b:List Value},AllV w s l a->AllV w s r b->AllV w s (l++r) (a++b)
 |[],_,[],_,_,h=>h
 |_::_,_,_::_,_,h1,h2=>⟨h1.1,tN h1.2 h2⟩
 |[],_,_::_,_,h1,_=>h1.elim
 |_::_,_,[],_,h1,_=>h1.elim
theorem allV_app3{w:World}{s:Sb}{x y z:Vl}{a b c:List Value}(h1:AllV w s (D.pvs (vlD x)) a)(h2:AllV w s (D.pvs (vlD y)) b)(h3:AllV w s (D.pvs (vlD z)) c):AllV w s (D.pvs (p3D x y z)) (a++(b++c)):=tN h1 (tN h2 h3)
set_option maxRecDepth 100000 in
theorem Arr3_open{H:Type}{enc:TypeId×Value->H}{W:World}{base:Nat}{v:Value}{d:DataW H}{ps:List MemPlace}
  (hv:Value.okWide Tryz.prog W .any base 30 v) (h:DataW.Trod enc Tryz.prog W 0 (fun _=>true) true 30 v d ps):
  ∃x y z:Vl,(D.agg (p3D x y z)).pv.p W (sW W) v/\∀n,Rows.uptoBulk d<=n->n<=1048576->VlIn x/\VlIn y/\VlIn z:=by
 have eV:Tryz.prog.cellsOf 29=7:=by kernel_rfl
 have eA:Tryz.prog.cellsOf 30=21:=by kernel_rfl
 have hv2:∃cs,v= .agg cs/\cs.size=Tryz.prog.cellsOf 30:=by
  simp only[Value.okWide,Tryz.underlying30]at hv;obtain⟨cs,h1,h2,_⟩:=hv;exact⟨cs,h1,h2⟩
 obtain⟨⟨l⟩,rfl,hsz⟩:=hv2;obtain⟨fuel,hf⟩:=h;obtain⟨xs,m,rfl,hx,hl,hn,hg⟩:=DataW.trod_array Tryz.underlying30 hf;have hlen:l.length=21:=by rw[eA]at hsz;simpa using hsz
 match xs,hn with
 |[y0,y1,y2],_=>
  have q:∀i,i<3->∃cs,(l.drop (i*7)).take 7=cs/\cs.length=7:=fun i hi=>⟨_,rfl,by rw[At,Ay];omega⟩;have g0:=hg 0 de;have g1:=hg 1 de;have g2:=hg 2 de;rw[eV]at g0 g1 g2;have k0:DataW.trod enc Tryz.prog W 0 (fun _=>true) true m 29 ((l.drop (0*7)).take 7)=some (y0.1,y0.2):=g0;have k1:DataW.trod enc Tryz.prog W 0 (fun _=>true) true m 29 ((l.drop (1*7)).take 7)=some (y1.1,y1.2):=g1;have k2:DataW.trod enc Tryz.prog W 0 (fun _=>true) true m 29 ((l.drop (2*7)).take 7)=some (y2.1,y2.2):=g2;obtain⟨x0,a0,_,q0⟩:=Opn.val m _ y0.1 y0.2 (by rw[eV,At,Ay];omega) k0;obtain⟨x1,a1,_,q1⟩:=Opn.val m _ y1.1 y1.2 (by rw[eV,At,Ay];omega) k1;obtain⟨x2,a2,_,q2⟩:=Opn.val m _ y2.1 y2.2 (by rw[eV,At,Ay];omega) k2;simp only[Prod.mk.injEq]at hx;refine⟨x0,x1,x2,⟨l,rfl,?_⟩,fun n hb hb2=>?_⟩
  ·have e:l=(l.drop (0*7)).take 7++((l.drop (1*7)).take 7++(l.drop (2*7)).take 7):=by
    rw[show(l.drop (2*7)).take 7=l.drop (2*7)from Am (by rw[Ay];omega)];rw[show l.drop (2*7)=(l.drop (1*7)).drop 7 by rw[List.drop_drop],Da,show l.drop (0*7)=l from rfl];exact(Da 7 l).symm
   rw[e];exact allV_app3 a0 a1 a2
  ·rw[hx.1]at hb;exact⟨q0 n (yY (i:=0) (y:=y0) rfl hb) hb2,q1 n (yY (i:=1) (y:=y1) rfl hb) hb2,q2 n (yY (i:=2) (y:=y2) rfl hb) hb2⟩
set_option maxRecDepth 100000 in
set_option maxHeartbeats 2000000 in
theorem Law_lifted(os:Os)(started:os.Started)(H:Type)(enc:TypeId×Value->H)(F:Stop.Interp):
  ReturnsInHanded {} Tryz.checked os 3 .any ((Rows.OpenSpec.upto Rows.operatorsSliceThenDeleteSpec).preRow enc Tryz.prog Tryz.f3 Rows.operatorsSliceThenDeleteUptoRow.domain false Rows.operatorsSliceThenDeleteUptoRow.laid) (((Rows.OpenSpec.upto Rows.operatorsSliceThenDeleteSpec).at F).post enc Tryz.prog Tryz.f3 false true false false):=by
 refine returnsInHanded_of_row (C:=Tryz.checked) (s:=Rows.OpenSpec.upto Rows.operatorsSliceThenDeleteSpec) Law_own started kr Tryz.func3
  (witness_row_atRef (enc:=enc) (C:=Tryz.checked) false (Law_world os) Law_arg rfl kr kr kr (Law_row os enc)) ?_
 intro W base args ds gs before hval0 hW _ hk _ hL hS _;have hval:∀(j:Nat)t v,Tryz.f3.params[j]?=some t->args[j]?=some v->Value.okWide Tryz.prog W .any base t v:=hval0;have hW':=hW;obtain⟨p,q,hA0,hV,rfl,hfz,hnd⟩:=hW;have hA:DataW.TrodAll enc Tryz.prog W 0 (fun _=>true) true Tryz.f3.params.toList args.toList ds p:=hA0;obtain⟨rfl,rfl⟩:=trodVars_none hV;have hA1:=hA;rw[Tryz.params3]at hA hval;obtain⟨v0,vs0,d0,ds0,p0,q0,hargs,rfl,rfl,h0,r0⟩:=trodAll_cons hA;obtain⟨v1,vs1,d1,ds1,p1,q1,rfl,rfl,rfl,h1,r1⟩:=trodAll_cons r0;obtain⟨v2,vs2,d2,ds2,p2,q2,rfl,rfl,rfl,h2,r2⟩:=trodAll_cons r1;obtain⟨rfl,rfl,rfl⟩:=trodAll_nil r2;obtain rfl:args= #[v0,v1,v2]:=by cases args;simp_all
 have hb:Rows.uptoBulkAll [d0,d1,d2]<=1048576:=by
  have:=hk _ rfl;simpa[Rows.uptoSmall]using this
 simp only[Rows.uptoBulkAll]at hb;obtain⟨x0,a0,i0⟩:=Opn.agg Opn.heap Tryz.underlying24 (hval 0 24 v0 rfl rfl) h0;obtain⟨x1,a1,i1⟩:=Opn.agg Opn.val Tryz.underlying29 (hval 1 29 v1 rfl rfl) h1;obtain⟨x2p,x2q,x2r,a2,i2⟩:=Arr3_open (hval 2 30 v2 rfl rfl) h2;have hG:=Law_glob hL hS;refine((Law40_ok x0 x1 x2p x2q x2r (i0 1048576 om (Ap _)) (i1 1048576 om (Ap _)) (i2 1048576 om (Ap _)).1 (i2 1048576 om (Ap _)).2.1 (i2 1048576 om (Ap _)).2.2).2 W (sW W) [v0,v1,v2] (fun _ _ h=>h) hG ⟨a0,a1,a2,trivial⟩).mono fun e W' hQ=>?_;obtain⟨s',x,he,hp,hst⟩:=hQ;have hp:x= .bool true:=hp;subst hp;subst he;have bel:=hst.below;have hl:laidOutB Tryz.prog=true:=by kernel_rfl
 have hread:Tryz.f3.params.toList.all (fun t=>Tryz.prog.readableRec t&&decide (t<Tryz.prog.types.size))=true:=by kernel_rfl
 refine⟨_,rfl,[d0,d1,d2],[],_,[],(p0++(p1++(p2++([])))),[],hW',?_,?_,?_,bel.frame _,fun h=>by cases h⟩
 ·exact trodAll_mk1 (shut_bool Tryz.underlying4 _)
 ·exact gP hl bel _ _ _ _ (fun t ht=>by have:=Bt.1 hread t ht;simpa using this) hA1
 ·rfl
theorem Law_fi:(Rows.operatorsSliceThenDeleteUptoRow.inPlace==Tryz.pinned.checked.prog.inPlace 3)=true:=by kernel_rfl
theorem Law_fu:(Rows.operatorsSliceThenDeleteUptoRow.unfollowed==Tryz.pinned.checked.prog.unfollowed 3)=true:=by kernel_rfl
theorem Law_fr:(Rows.operatorsSliceThenDeleteUptoRow.recurses==Tryz.pinned.checked.prog.recurses 3)=true:=by kernel_rfl
theorem Law_fn:(Rows.operatorsSliceThenDeleteUptoRow.named==Tryz.pinned.checked.prog.varsNamed 3)=true:=by kernel_rfl
theorem Law_facts:joinedFacts Tryz.pinned.checked.prog 3 Tryz.f3 (Rows.OpenSpec.upto Rows.operatorsSliceThenDeleteSpec).bare Rows.operatorsSliceThenDeleteUptoRow=true:=by
 unfold joinedFacts;rw[Law_fi,Law_fu,Law_fr,Law_fn];kernel_rfl
theorem Law_inst:Tryz.f3.isInstance Tryz.pinned.checked.prog Rows.operatorsSliceThenDeleteUptoRow.origin Rows.operatorsSliceThenDeleteUptoRow.targs:=Ar kr
theorem Law_wrap:Tryz.f3.isWrapper Tryz.pinned.checked.prog Rows.operatorsSliceThenDeleteUptoRow.wrapper Rows.operatorsSliceThenDeleteUptoRow.mainSum:=by unfold Func.isWrapper;first|(rw[Ag (by decide+kernel)];kernel_rfl)|(rw[Aa (by decide+kernel)];exact⟨rfl,rfl⟩)
theorem Law_named:Tryz.pinned.checked.prog.funcNamed Rows.operatorsSliceThenDeleteUptoRow.func=some 3:=by kernel_rfl
theorem Law_looks:false=Tryz.pinned.checked.prog.looks []:=by kernel_rfl
theorem Law_goes:false=Rows.operatorsSliceThenDeleteUptoRow.goesBy Tryz.pinned.checked.prog:=by kernel_rfl
theorem Law_wf:Rows.operatorsSliceThenDeleteUptoRow.wfByText (Rows.OpenSpec.upto Rows.operatorsSliceThenDeleteSpec)=true:=by kernel_rfl
theorem Law_main:Tryz.pinned.checked.prog.mainIs=some (Rows.operatorsSliceThenDeleteUptoCard.stood.harness.1,Rows.operatorsSliceThenDeleteUptoCard.stood.harness.2.toList):=by kernel_rfl
theorem Law_said:Rows.OperatorsSliceThenDeleteUptoSaid:=
 OpenClaim.holds_of_cond 3 Tryz.f3 rfl rfl rfl rfl rfl rfl rfl ⟨rfl,rfl,rfl,rfl,rfl⟩ rfl rfl rfl rfl rfl Law_named Tryz.func3 Law_facts Law_inst Law_wrap
  (fun os started H enc _ F=>by rw[OpenClaim.pre_eq_preRow];exact Law_lifted os started H enc F)
theorem Law_plain(f:FuncId)(fn:Func)(hf:Tryz.pinned.checked.prog.funcNamed "brindlewood/brindlewoodlaw7.OperatorsSliceThenDelete" =some f)(hfn:Tryz.pinned.checked.prog.funcs[f]?=some fn):
  false=Tryz.pinned.checked.prog.looks []/\∀(j:Nat)t,fn.params[j]?=some t->Tryz.pinned.checked.prog.wantsStandIn t=false:=by
 obtain rfl:f=3:=Option.some.inj (Law_named.symm.trans hf)|>.symm;obtain rfl:fn=Tryz.f3:=(Option.some.inj (Tryz.func3.symm.trans hfn)).symm;refine⟨Law_looks,fun j t ht=>?_⟩;rw[Tryz.params3]at ht;have hm:=Array.mem_of_getElem? ht;simp only[List.mem_toArray,Bc,List.not_mem_nil,or_false]at hm;have wa:Tryz.prog.wantsStandIn 30=false:=by kernel_rfl
 have wh:Tryz.prog.wantsStandIn 24=false:=by kernel_rfl
 have wv:Tryz.prog.wantsStandIn 29=false:=by kernel_rfl
 rcases hm with rfl|rfl|rfl
 ·exact wh
 ·exact wv
 ·exact wa
theorem Law_holds:Rows.OperatorsSliceThenDeleteUptoCardSaid:=
 Claim7.holds_tied_plain_at .later [] _ _ _ _ Law_said (fun _ h=>by cases h) Law_wf (fun _ h=>by cases h) operatorsSliceThenDeleteUpto_row_tie rfl ⟨rfl,rfl⟩ Law_main rfl Law_plain Law_goes
end Go.Proofs.YtmakjjodkiedmaaGreatDoor
