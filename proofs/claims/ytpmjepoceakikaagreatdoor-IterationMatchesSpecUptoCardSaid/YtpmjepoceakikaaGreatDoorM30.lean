/-Part 30 of the proof. -/
import Derived.Test.YtpmjepoceakikaaGreatDoorM20
import Derived.Lib.ItoaLen
import Derived.Lib.AppendIntMem
namespace Go.Proofs.YtpmjepoceakikaaGreatDoor
namespace Ge
open Go.RowKit
structure Ge(h h':List Ob):Prop where
 kd:∀{m:Int},inH h m->(yI h' m).kind=(yI h m).kind/\(yI h' m).cls=(yI h m).cls/\(yI h' m).order=(yI h m).order
 tu:∀{m:Int},inH h m->(yI h m).kind=1->(yI h' m).items=(yI h m).items
 le:h.length<=h'.length
def Rf(h:List Ob)(u:Vl):Prop:=u.k=6->yU h u.r=true
theorem rf0(h:List Ob):Rf h vl0:=fun h6=>absurd h6 (show ¬(0:Int)=6 by decide)
theorem jL0{h:List Ob}{l:List Vl}(hl:∀x∈l,Rf h x)(k:Nat):Rf h (l.getD k vl0):=by
 rw[Ac]
 cases hq:l[k]? with
 |none=>exact rf0 h
 |some v=>exact hl v (Bi hq)
theorem mV{h:List Ob}(g:Uh h)(u:Vl):∀x∈(zU h u).items,Rf h x:=fun x hx h6=>by
 by_cases hk:u.k=6/\yU h u.r=true
 ·rw[show zU h u=yI h u.r from Ab hk]at hx;exact g.items (yR hk.2) hx h6
 ·rw[show zU h u=ob0 from Aa hk]at hx
  cases hx
section
variable{h h':List Ob}(E:Ge h h')
include E
theorem Ge.inn{m:Int}(hm:inH h m):inH h' m:=⟨hm.1,by have:=E.le;have:=hm.2;omega⟩
theorem Ge.isE{m:Int}(hm:Go.Proofs.YtpmjepoceakikaaGreatDoor.inH h m):yU h' m=yU h m:=by
 have e:(h'.getD m.toNat ob0).kind=(h.getD m.toNat ob0).kind:=(E.kd hm).1;have h1:=E.inn hm;unfold yU;rw[e,Bh (show m<(h'.length:Int) by have:=h1.1;have:=h1.2;omega),Bh (show m<(h.length:Int) by have:=hm.1;have:=hm.2;omega)]
theorem Ge.isO{m:Int}(hm:yU h m=true):yU h' m=true:=by
 rw[E.isE (yR hm)];exact hm
theorem Ge.ob{u:Vl}(hu:Rf h u):(zU h' u).kind=(zU h u).kind/\(zU h' u).cls=(zU h u).cls/\(zU h' u).order=(zU h u).order:=by
 by_cases h6:u.k=6
 ·have hi:=hu h6;rw[show zU h' u=yI h' u.r from Ab ⟨h6,E.isO hi⟩,show zU h u=yI h u.r from Ab ⟨h6,hi⟩];exact E.kd (yR hi)
 ·rw[wE h6,wE h6];exact⟨rfl,rfl,rfl⟩
theorem Ge.tup{u:Vl}(hu:Rf h u)(hk:(zU h u).kind=1):(zU h' u).items=(zU h u).items:=by
 have h6:u.k=6:=(jV (h:=h) (v:=u) om).1;have hi:=hu h6;rw[show zU h u=yI h u.r from Ab ⟨h6,hi⟩]at hk;rw[show zU h' u=yI h' u.r from Ab ⟨h6,E.isO hi⟩,show zU h u=yI h u.r from Ab ⟨h6,hi⟩];exact E.tu (yR hi) hk
theorem Ge.call{u:Vl}(hu:Rf h u):xP0 h' u=xP0 h u:=by
 unfold xP0;rw[(E.ob hu).1]
variable(g:Uh h)
include g
theorem Ge.exc{u:Vl}(hu:Rf h u):excS h' u=excS h u:=by
 have e:=E.ob hu;unfold excS;rw[e.1,e.2.1];by_cases hk:(zU h u).kind=10
 ·have ho:=jV (h:=h) (v:=u) om;have hc:inH h (zU h u).cls:=by
   rw[ho.2.2]at hk⊢;exact g.cls (yR ho.2.1) hk
  rw[E.isE hc,(E.kd hc).2.2]
 ·rw[Ca hk];rfl
theorem Ge.cau{u:Vl}(hu:Rf h u):cauP h' u=cauP h u:=by
 unfold cauP;rw[E.exc g hu]
theorem Ge.mem{i:Int}{u:Vl}(hu:Rf h u):memP h' i u=memP h i u:=by
 unfold memP;rw[E.exc g hu]
omit g in
theorem Ge.mkp{u:Vl}(hu:Rf h u):mkP h' u=mkP h u:=by
 unfold mkP;rw[(E.ob hu).1];by_cases hk:(zU h u).kind=1
 ·rw[E.tup hu hk]
 ·rw[Ca hk];rfl
omit E g in
theorem qM0{α:Type}{p q:α->Bool}{l:List α}(hl:∀x∈l,p x=q x):l.all p=l.all q:=by
 induction l with
 |nil=>rfl
 |cons x l ih=>rw[List.all_cons,List.all_cons,hl x Bc,ih fun y hy=>hl y (Az _ hy)]
theorem Ge.excOk{o:Ob}{i:Int}(hc:Go.Proofs.YtpmjepoceakikaaGreatDoor.inH h o.cls)(hv:∀x∈o.items,Rf h x):wA h' o i=wA h o i:=by
 have hm:∀x∈midV o.items,Rf h x:=fun x hx=>hv x (Do (Cn hx));have r:=fun k=>jL0 hv k;unfold wA;rw[(E.kd hc).2.2,qM0 (fun x hx=>E.cau g (hm x hx)),(E.ob (r _)).1,(E.ob (r _)).1,(E.ob (r _)).1];have a3:(zU h (o.items.getD (Int.toNat 3) vl0)).kind=1->(zU h' (o.items.getD (Int.toNat 3) vl0)).items.all (mkP h')=(zU h (o.items.getD (Int.toNat 3) vl0)).items.all (mkP h):=fun hk=>by
  rw[E.tup (r _) hk];exact qM0 fun x hx=>E.mkp (mV g _ x hx)
 have a4:(zU h (o.items.getD (Int.toNat 4) vl0)).kind=1->(zU h' (o.items.getD (Int.toNat 4) vl0)).items.all (memP h' i)=(zU h (o.items.getD (Int.toNat 4) vl0)).items.all (memP h i):=fun hk=>by
  rw[E.tup (r _) hk];exact qM0 fun x hx=>E.mem g (mV g _ x hx)
 by_cases k0:(zU h (o.items.getD (Int.toNat 0) vl0)).kind=1
 ·by_cases k3:(zU h (o.items.getD (Int.toNat 3) vl0)).kind=1
  ·rw[a3 k3];by_cases k4:(zU h (o.items.getD (Int.toNat 4) vl0)).kind=1
   ·rw[a4 k4,E.tup (r _) k4,E.tup (r _) k0]
   ·rw[Ca k4,Cd,Cd];simp
  ·rw[Ca k3,Bool.not_false,Bool.or_true];simp
 ·rw[Ca k0,Bool.not_false,Bool.true_or];simp
theorem Ge.links{o:Ob}{i:Int}(V:Vs h o)(hst:o.kind=18->0<o.state->inH h (o.state-1)):qU h' o i=qU h o i:=by
 have hv:∀x∈o.items,Rf h x:=fun x hx h6=>V.vals x (As.2 (.inr hx)) h6;have r:∀k,Rf h (itm o k):=fun k=>jL0 hv _;have hc:=yR V.cls;unfold qU;by_cases k5:o.kind=5
 ·rw[Ab k5,Ab k5]
 rw[Aa k5,Aa k5];by_cases k7:o.kind=7
 ·rw[Ab k7,Ab k7,(E.kd hc).1,qM0 (p:=celP h') (q:=celP h) fun x hx=>by unfold celP;rw[(E.kd (yR (V.refs x hx))).1]]
 rw[Aa k7,Aa k7];by_cases k8:o.kind=8
 ·rw[Ab k8,Ab k8,E.call (r 0)]
 rw[Aa k8,Aa k8];by_cases k14:o.kind=14
 ·rw[Ab k14,Ab k14,E.call (r 0)]
 rw[Aa k14,Aa k14];by_cases k9:o.kind=9
 ·rw[Ab k9,Ab k9,qM0 (p:=basP h' i) (q:=basP h i) fun x hx=>by unfold basP;rw[(E.kd (yR (V.refs x hx))).1]]
 rw[Aa k9,Aa k9];by_cases k10:o.kind=10
 ·rw[Ab k10,Ab k10,(E.kd hc).1,(E.kd hc).2.2,E.excOk g hc hv]
 rw[Aa k10,Aa k10];by_cases k15:o.kind=15
 ·rw[Ab k15,Ab k15,(E.ob (r 1)).1];unfold supT;by_cases q10:(zU h (itm o 1)).kind=10
  ·have ho:=jV (h:=h) (v:=itm o 1) om;have hc2:inH h (zU h (itm o 1)).cls:=by
    rw[ho.2.2]at q10⊢;exact g.cls (yR ho.2.1) q10
   rw[Ab q10,Ab q10,(E.ob (r 1)).2.1,(E.ob (r 0)).1,E.isE hc2,(E.kd hc2).2.2]
  ·rw[Aa q10,Aa q10];by_cases q9:(zU h (itm o 1)).kind=9
   ·have ho:=jV (h:=h) (v:=itm o 1) om;have hin:=yR ho.2.1;rw[Ab q9,Ab q9,(E.ob (r 0)).1,E.isE hin,(E.kd hin).2.2]
   ·rw[Aa q9,Aa q9]
 rw[Aa k15,Aa k15];by_cases k16:o.kind=16
 ·rw[Ab k16,Ab k16,(E.ob (r 0)).1]
 rw[Aa k16,Aa k16];by_cases k18:o.kind=18
 ·rw[Ab k18,Ab k18];by_cases h0:0<o.state
  ·have hi:=hst k18 h0;rw[Ab h0,Ab h0,(E.kd hi).1,(E.kd hi).2.1]
  ·rw[Aa h0,Aa h0]
 rw[Aa k18,Aa k18];by_cases k19:o.kind=19
 ·rw[Ab k19,Ab k19,(E.ob (r 0)).1]
 rw[Aa k19,Aa k19]
theorem Ge.pt:∀(f:Nat)(left out:List Vl),(∀x∈left,Rf h x)->ptS h' f left out=ptS h f left out
 |0,_,_,_=>rfl
 |_+1,[],_,_=>rfl
 |f+1,x::left,out,hl=>by
  have hx:=hl x Bc;have hr:∀y∈left,Rf h y:=fun y hy=>hl y (Az _ hy);rw[ptS,ptS,(E.ob hx).1];split
  ·rfl
  ·by_cases hk:(zU h x).kind=1
   ·rw[Ab hk,Ab hk,E.tup hx hk];exact Ge.pt f _ _ fun y hy=>by
     rcases As.1 hy with h1|h1
     ·exact mV g x y (Cn h1)
     ·exact hr y h1
   ·rw[Aa hk,Aa hk];exact Ge.pt f _ _ hr
theorem Ge.keyed{u:Vl}(hu:Rf h u):uE h' u=uE h u:=by
 unfold uE qL;rw[E.pt g _ _ _ fun x hx=>by rw[Bv.1 hx];exact hu]
theorem Ge.smk:∀(n:Nat){v w:Vl},Rf h v->Rf h w->smK h' n v w=smK h n v w
 |0,_,_,_,_=>rfl
 |n+1,v,w,hv,hw=>by
  show dL h' (smK h' n) v w=dL h (smK h n) v w;unfold dL;rw[(E.ob hv).1,(E.ob hw).1];by_cases hk:(zU h v).kind=1/\(zU h w).kind=1
  ·rw[Ab hk,Ab hk,E.tup hv hk.1,E.tup hw hk.2];congr 1;refine qM0 fun j _=>?_;unfold prP;exact Ge.smk n (jL0 (mV g v) _) (jL0 (mV g w) _)
  ·rw[Aa hk,Aa hk]
theorem Ge.krf:∀(l seen:List Vl),(∀x∈l,Rf h x)->(∀x∈seen,Rf h x)->krF h' seen l=krF h seen l
 |[],_,_,_=>rfl
 |s::l,seen,hl,hs=>by
  have h1:=hl s Bc;have e:(seen.any fun x=>smK h' 1001 x s)=seen.any fun x=>smK h 1001 x s:=by
   induction seen with
   |nil=>rfl
   |cons x seen ih=>rw[List.any_cons,List.any_cons,E.smk g 1001 (hs x Bc) h1,ih fun y hy=>hs y (Az _ hy)]
  rw[krF,krF,E.keyed g h1,e,Ge.krf l (seen++[s]) (fun y hy=>hl y (Az _ hy)) fun y hy=>by
   rcases As.1 hy with h2|h2
   ·exact hs y h2
   ·rw[Bv.1 h2];exact h1]
omit g in
theorem Ge.vals{o:Ob}(hv:jZ h o=0):jZ h' o=0:=by
 unfold jZ at hv⊢;split at hv
 ·rename_i h1;rw[Ab h1];split at hv
  ·rename_i h2;rw[Ab];rw[Be]at h2⊢;exact fun r hr=>E.isO (h2 r hr)
  ·cases hv
 ·cases hv
omit g in
theorem Ge.ordOk{o:Ob}{i:Int}(V:Vs h o):jJ h' o i=jJ h o i:=by
 have e:tI h' o=tI h o:=by
  unfold tI;exact List.map_congr_left fun r hr=>(E.kd (yR (V.refs r hr))).2.2
 unfold jJ;rw[e]
theorem Ge.code{i:Nat}(hi:i<h.length)(e:yI h' i=yI h i):uY h' i=0:=by
 by_cases h49:(i:Int)<49
 ·have hb:=g.lo_at (i:=i) om;unfold uY;rw[Ab h49,e,Ab hb]
 ·have u:=g.hi_at om hi;have V:=kZ u.vals;have hst:(yI h i).kind=18->0<(yI h i).state->inH h ((yI h i).state-1):=fun hk h0=>by
   have h2:=V.weak hk om;have h3:=(vR0 u.shape).2.2.2.1;rw[hk,show xH 18=5000 from by decide]at h3;rw[cC h0 om]at h2;exact yR h2
  have hf:fstC (bC h' (yI h i))=0:=by
   have hv:=E.vals u.vals;unfold bC;rw[fstC,Ab u.shape,fstC,Ab u.sizes,fstC,Ab u.names,fstC,Ab hv];rfl
  unfold uY;rw[Aa h49,e,Aa (by have:=u.kind;omega),Ab hf,E.links g V hst,Ab u.links];have hk:keyS h' (yI h i)=0:=by
   unfold keyS;rw[E.krf g _ _ (fun x hx h6=>V.vals x (As.2 (.inl hx)) h6) (fun x hx=>by cases hx)];exact u.keys
  rw[Ab hk,E.ordOk V,Ab u.order]
end
end Ge
namespace Ge
theorem yN1{h:List Ob}{o:Ob}{m:Int}(hm:inH h m):yI (h++[o]) m=yI h m:=by
 show(h++[o]).getD m.toNat ob0=h.getD m.toNat ob0;rw[Ac,Ac,Bw hm.2]
theorem app{h:List Ob}{o:Ob}:Ge h (h++[o]):=
 ⟨fun hm=>by rw[yN1 hm];exact⟨rfl,rfl,rfl⟩,fun hm _=>by rw[yN1 hm],by rw[Af];omega⟩
theorem in_nat{h:List Ob}{i:Nat}(hi:i<h.length):inH h (i:Int):=⟨by omega,by simpa using hi⟩
theorem uh_app{h:List Ob}(g:Uh h){o:Ob}(hl:h.length<6000)(hc:uY (h++[o]) h.length=0):Uh (h++[o]):=by
 refine⟨by rw[Af];have:=g.lo;omega,by rw[Af,Cg];omega,fun i hi=>?_⟩;rw[Af,Cg]at hi;by_cases h1:i<h.length
 ·exact(app (h:=h) (o:=o)).code g h1 (yN1 (in_nat h1))
 ·rw[show i=h.length by omega];exact hc
theorem at_set{h:List Ob}{n m:Int}{o:Ob}(hn:inH h n)(hm:inH h m):yI (h.set n.toNat o) m=if m=n then o else yI h m:=by
 show(h.set n.toNat o).getD m.toNat ob0=if m=n then o else h.getD m.toNat ob0;rw[Ac,List.getElem?_set];by_cases e:m=n
 ·subst e;rw[Ab rfl,Ab hm.2,Ab rfl];rfl
 ·have hne:¬n.toNat=m.toNat:=fun h9=>by
   have:=hn.1;have:=hm.1;omega
  rw[Aa hne,Aa e,Ac]
theorem set{h:List Ob}{n:Int}{o:Ob}(hn:inH h n)(hk:o.kind=(yI h n).kind/\o.cls=(yI h n).cls/\o.order=(yI h n).order)(ht:(yI h n).kind=1->o.items=(yI h n).items):Ge h (h.set n.toNat o):=by
 refine⟨fun hm=>?_,fun hm h1=>?_,by rw[Cu];exact Aq _⟩
 ·rw[at_set hn hm];split
  ·rename_i e;rw[e];exact hk
  ·exact⟨rfl,rfl,rfl⟩
 ·rw[at_set hn hm];split
  ·rename_i e;rw[e]at h1⊢;exact ht h1
  ·rfl
theorem uh_set{h:List Ob}(g:Uh h){n:Int}{o:Ob}(hn:inH h n)(E:Ge h (h.set n.toNat o))(hc:uY (h.set n.toNat o) n.toNat=0):Uh (h.set n.toNat o):=by
 refine⟨by rw[Cu];exact g.lo,by rw[Cu];exact g.hi,fun i hi=>?_⟩;rw[Cu]at hi;by_cases e:i=n.toNat
 ·rw[e];exact hc
 ·refine E.code g hi ?_;rw[at_set hn (in_nat hi),Aa (fun h9=>e om)]
theorem code_of{h:List Ob}{i:Nat}(h49:49<=i)(u:Uho h (yI h i) i):uY h i=0:=by
 unfold uY;have hf:fstC (bC h (yI h i))=0:=by
  unfold bC;rw[fstC,Ab u.shape,fstC,Ab u.sizes,fstC,Ab u.names,fstC,Ab u.vals];rfl
 rw[Aa om,Aa (by have:=u.kind;omega),Ab hf,Ab u.links,Ab u.keys,Ab u.order]
end Ge
variable{md me:Bool}
def itB(n:Int):ByteArray:=⟨(Lib.itoa n).toArray⟩
def quB(s:ByteArray):ByteArray:=strOfNums (Lib.quoteZ Lib.goPrintTabs s)
theorem pQ0{n:Int}(h0: -9223372036854775808<=n)(h1:n<=9223372036854775807):(itB n).size<=21:=by
 have:=Lib.itoa_length_le n h0 h1;simpa[itB,ByteArray.size]using this
theorem tP(s:ByteArray):(quB s).size<=10*s.size+2:=by
 have:=Lib.quoteZ_length_le Lib.goPrintTabs s;rw[quB,strOfNums_size];exact this
def hxL(x:Nat):List Nat:=if h:x=0 then []else x%16::hxL (x/16)
termination_by x
decreasing_by omega
theorem pO:hxL 0=[]:=by rw[hxL];rfl
theorem uD0{x:Nat}(h:x≠0):hxL x=x%16::hxL (x/16):=by rw[hxL,dif_neg h]
theorem uJ1:∀{n x d:Nat},x<n->d∈hxL x->d<16
 |0,x,d,h,_=>by omega
 |n+1,x,d,h,hd=>by
  by_cases h0:x=0
  ·subst h0;rw[pO]at hd;cases hd
  ·rw[uD0 h0]at hd;rcases Bl.1 hd with rfl|hd
   ·exact Cy _ de
   ·exact uJ1 (n:=n) om hd
theorem gZ0:∀{n x:Nat},x<16^n->(hxL x).length<=n
 |0,x,h=>by
  have:x=0:=by simpa using h
  subst this;rw[pO];exact Aq 0
 |n+1,x,h=>by
  by_cases h0:x=0
  ·subst h0;rw[pO];exact Ap _
  ·rw[uD0 h0,An];have:=gZ0 (n:=n) (x:=x/16) (by rw[Bx]at h;omega);omega
def alB:ByteArray:=⟨#[48,49,50,51,52,53,54,55,56,57,97,98,99,100,101,102,103,104,105,106,107,108,109,110,111,112,113,114,115,116,117,118,119,120,121,122]⟩
def hxS(b:Bool)(x:Nat):ByteArray:=if x=0 then⟨#[48]⟩else⟨((if b then [45]else [])++(hxL x).reverse.map fun d=>UInt8.ofNat (bAt alB d)).toArray⟩
theorem tT{b:Bool}{l:List Nat}(h:Lg l):(hxS b (VL l)).size<=8*l.length+2:=by
 have h1:=L_lt h;have h2:(hxL (VL l)).length<=8*l.length:=gZ0 (by rw[Nat.pow_mul];exact h1);unfold hxS;split
 ·show 1<=_;omega
 ·have h3:(if b=true then [(45:UInt8)]else []).length<=1:=by split<;>decide
  show(List.toArray _).size<=_;rw[Ch,Af,Ar,Et];omega
structure Skt where
 ord:List Int
 out:List UInt8
def sB(n:UInt8):ByteArray:=⟨#[n]⟩
def Skt.w(k:Skt)(s:ByteArray):Skt:=⟨k.ord,k.out++s.data.toList⟩
def Skt.n(k:Skt)(n:Int):Skt:=k.w (itB n++sB 32)
def Skt.see(b:Int)(k:Skt)(n:Int):Skt:=
 if n<b then(k.w (sB 35)).n n
 else if ixI k.ord n<0 then((⟨k.ord++[n],k.out⟩:Skt).w (sB 64)).n (k.ord.length:Nat)
 else(k.w (sB 64)).n (ixI k.ord n)
def vlT(v:Vl):ByteArray:=quB v.s++sB 32++hxS v.nn (VL v.nl)++sB 32++hxS v.dn (VL v.dl)++sB 44
def Skt.v(b:Int)(k:Skt)(v:Vl):Skt:=if v.k=6 then k.see b v.r else((k.n v.k).n v.r).w (vlT v)
def Skt.vs(b:Int)(k:Skt)(l:List Vl):Skt:=(l.foldl (Skt.v b) k).w (sB 124)
def Skt.o1(_:Int)(k:Skt)(o:Ob):Skt:=(((k.w (sB 10)).n o.kind).n o.code).w (quB o.name)
def Skt.o2(k:Skt)(l:List ByteArray):Skt:=l.foldl (fun k s=>k.w (s++sB 44)) k
def Skt.o3(b:Int)(e:Bool)(k:Skt)(o:Ob):Skt:=if o.kind=18/\0<o.state then k.see b (o.state-1)else if ¬o.kind=9\/e=true then k.n o.state else k
def Skt.o4(b:Int)(k:Skt)(o:Ob):Skt:=if o.kind=10\/o.kind=7 then k.see b o.cls else k
def Skt.o5(b:Int)(e:Bool)(k:Skt)(o:Ob):Skt:=((if e=true then o.order else []).foldl (Skt.see b) (o.refs.foldl (Skt.see b) (k.w (sB 59)))).w (sB 124)
def Skt.ob(b:Int)(e:Bool)(k:Skt)(o:Ob):Skt:=((((((k.o1 b o).o2 o.names).o3 b e o).o4 b o).o5 b e o).vs b o.keys).vs b o.items
def cV(v:Vl):Nat:=60+10*v.s.size+8*v.nl.length+8*v.dl.length
def cVs(l:List Vl):Nat:=(l.map cV).sum+1
def cO(o:Ob):Nat:=120+10*o.name.size+(o.names.map fun s=>s.size+1).sum+23*o.refs.length+23*o.order.length+cVs o.keys+cVs o.items
theorem bE0(k:Skt)(s:ByteArray):(k.w s).out.length=k.out.length+s.size/\(k.w s).ord=k.ord:=⟨by show(k.out++s.data.toList).length=_;rw[Af];rfl,rfl⟩
theorem wE1{k:Skt}{n:Int}(h0: -9223372036854775808<=n)(h1:n<=9223372036854775807):(k.n n).out.length<=k.out.length+22/\(k.n n).ord=k.ord:=by
 have:=pQ0 h0 h1;refine⟨?_,rfl⟩;rw[Skt.n,(bE0 _ _).1,Db];show _+(_+1)<=_;omega
theorem gX0{α:Type} [DecidableEq α]:∀(l:List α)(n:α),ixI l n<l.length
 |[],n=>by show(-1:Int)<((0:Nat):Int);omega
 |x::l,n=>by
  have:=gX0 l n;rw[ixI,An];split
  ·omega
  ·split<;>omega
structure SkI(b:Int)(N:Nat)(k:Skt):Prop where
 mem:∀n∈k.ord,b<=n/\n<(N:Int)
 nd:k.ord.Nodup
theorem yZ0:∀{N:Nat}{l:List Int},l.Nodup->(∀n∈l,0<=n/\n<(N:Int))->l.length<=N
 |0,[],_,_=>Aq 0
 |0,x::l,_,h=>by have:=h x Bc;omega
 |N+1,l,hn,h=>by
  have h1:(l.filter fun n=>decide (n≠(N:Int))).Nodup:=hn.filter _;have h2:=yZ0 (N:=N) h1 fun n hm=>by
   obtain⟨hm,hd⟩:=List.mem_filter.1 hm;have:=h n hm;have:=Ag hd;omega
  have h3:(l.filter fun n=> !decide (n≠(N:Int))).length<=1:=by
   have h4:(l.filter fun n=> !decide (n≠(N:Int))).Nodup:=hn.filter _;generalize hL:(l.filter fun n=> !decide (n≠(N:Int)))=L at*;have h5:∀n∈L,n=(N:Int):=fun n hm=>by
    rw[<-hL]at hm;have:=(List.mem_filter.1 hm).2;simpa using this
   match L,h4,h5 with
   |[],_,_=>exact Ap _
   |[_],_,_=>exact Aq _
   |a::c::L,h4,h5=>
    have e1:=h5 a Bc;have e2:=h5 c (Az _ Bc);rw[List.nodup_cons]at h4;exact absurd (by rw[e1,e2];exact Bc) h4.1
  have h6:l.length=(l.filter fun n=>decide (n≠(N:Int))).length+(l.filter fun n=> !decide (n≠(N:Int))).length:=by
   clear hn h h1 h2 h3;induction l with
   |nil=>rfl
   |cons x l ih=>
    rw[Eb,Eb,An,ih];by_cases hx:x=(N:Int)
    ·simp[hx];omega
    ·simp[hx];omega
  omega
theorem SkI.len{b:Int}{N:Nat}{k:Skt}(h:SkI b N k)(hb:0<=b):k.ord.length<=N:=yZ0 h.nd fun n hn=>by have:=h.mem n hn;omega
theorem ixI_neg{l:List Int}{n:Int}(h:ixI l n<0):n∉l:=fun hm=>by
 have h1:=gW0 l n;have h2:hasB l n=true:=by simpa[hasB]using hm
 rw[h2]at h1;have:=Ag h1;omega
structure SkS(b:Int)(N:Nat)(k k':Skt)(c:Nat):Prop where
 inv:SkI b N k'
 len:k'.out.length<=k.out.length+c
 pre:∃r,k'.ord=k.ord++r
theorem SkS.refl{b:Int}{N:Nat}{k:Skt}(h:SkI b N k):SkS b N k k 0:=⟨h,by omega,[],by simp⟩
theorem SkS.trans{b:Int}{N:Nat}{k k' k'':Skt}{c d:Nat}(h:SkS b N k k' c)(g:SkS b N k' k'' d):SkS b N k k'' (c+d):=by
 obtain⟨r,hr⟩:=h.pre;obtain⟨q,hq⟩:=g.pre;exact⟨g.inv,by have:=h.len;have:=g.len;omega,r++q,by rw[hq,hr,Cr]⟩
theorem SkS.le{b:Int}{N:Nat}{k k':Skt}{c d:Nat}(h:SkS b N k k' c)(hc:c<=d):SkS b N k k' d:=⟨h.inv,by have:=h.len;omega,h.pre⟩
theorem w_ok{b:Int}{N:Nat}{k:Skt}(h:SkI b N k)(s:ByteArray):SkS b N k (k.w s) s.size:=⟨⟨h.mem,h.nd⟩,by rw[(bE0 _ _).1];omega,[],by simp[Skt.w]⟩
theorem n_ok{b:Int}{N:Nat}{k:Skt}(h:SkI b N k){n:Int}(h0: -9223372036854775808<=n)(h1:n<=9223372036854775807):SkS b N k (k.n n) 22:=⟨⟨h.mem,h.nd⟩,(wE1 h0 h1).1,[],by simp[Skt.n,Skt.w]⟩
theorem vT0{b:Int}{N:Nat}{k:Skt}{n:Int}(h:SkI b N k)(hb:0<=b)(hN:N<=1000000000)(h0: -9223372036854775808<=n)(h1:n<(N:Int)):SkS b N k (k.see b n) 23:=by
 have hl:=h.len hb;unfold Skt.see;split
 ·exact((w_ok h (sB 35)).trans (n_ok (w_ok h (sB 35)).inv h0 om)).le de
 ·split
  ·rename_i hx hi;have hm:=ixI_neg hi;have a:SkS b N k (⟨k.ord++[n],k.out⟩:Skt) 0:=by
    refine⟨⟨fun m hm=>?_,?_⟩,Aq _,[n],rfl⟩
    ·rcases As.1 hm with hm|hm
     ·exact h.mem m hm
     ·rw[Bv.1 hm];omega
    ·show(k.ord++[n]).Nodup;rw[List.nodup_append];refine⟨h.nd,by simp,fun a ha c hc=>?_⟩;rw[Bv.1 hc];exact fun e=>hm (e▸ha)
   have a2:=a.trans (w_ok a.inv (sB 64));exact(a2.trans (n_ok a2.inv (n:=(k.ord.length:Nat)) om om)).le de
  ·rename_i hx hi;have h2:ixI k.ord n<k.ord.length:=gX0 _ _;exact((w_ok h (sB 64)).trans (n_ok (w_ok h (sB 64)).inv om om)).le de
theorem cR{b:Int}{N:Nat}(hb:0<=b)(hN:N<=1000000000):∀{l:List Int}{k:Skt},SkI b N k->(∀n∈l,0<=n/\n<(N:Int))->SkS b N k (l.foldl (Skt.see b) k) (23*l.length)
 |[],k,h,_=>SkS.refl h
 |n::l,k,h,hl=>by
  have h1:=hl n Bc;have h2:=vT0 h hb hN (n:=n) om h1.2;exact(h2.trans (cR hb hN (l:=l) h2.inv fun m hm=>hl m (Az _ hm))).le (by rw[An];omega)
structure VlC(N:Nat)(v:Vl):Prop where
 vin:VlIn v
 r:v.k=6->v.r<(N:Int)
structure ObC(N:Nat)(o:Ob):Prop where
 oin:ObIn o
 st:o.kind=18->o.state-1<(N:Int)
 cls:o.kind=10\/o.kind=7->o.cls<(N:Int)
 refs:∀n∈o.refs,0<=n/\n<(N:Int)
 order:∀n∈o.order,0<=n/\n<(N:Int)
 keys:∀v∈o.keys,VlC N v
 items:∀v∈o.items,VlC N v
theorem mC0{v:Vl}(h:VlIn v):(vlT v).size<=10*v.s.size+8*v.nl.length+8*v.dl.length+9:=by
 have h1:=tP v.s;have h2:=tT (b:=v.nn) h.nl;have h3:=tT (b:=v.dn) h.dl;have e:∀n,(sB n).size=1:=fun _=>rfl;simp only[vlT,Db,e];omega
theorem v_ok{b:Int}{N:Nat}{k:Skt}{v:Vl}(h:SkI b N k)(hb:0<=b)(hN:N<=1000000000)(hv:VlC N v):SkS b N k (k.v b v) (cV v):=by
 unfold Skt.v cV;split
 ·rename_i hk;exact(vT0 h hb hN hv.vin.r1 (hv.r hk)).le om
 ·have h1:=n_ok h hv.vin.k1 hv.vin.k2;have h2:=h1.trans (n_ok h1.inv hv.vin.r1 hv.vin.r2);have h4:=mC0 hv.vin;exact(h2.trans (w_ok h2.inv (vlT v))).le om
theorem bW0{b:Int}{N:Nat}(hb:0<=b)(hN:N<=1000000000):∀{l:List Vl}{k:Skt},SkI b N k->(∀v∈l,VlC N v)->SkS b N k (l.foldl (Skt.v b) k) (l.map cV).sum
 |[],k,h,_=>SkS.refl h
 |v::l,k,h,hl=>by
  have h2:=v_ok h hb hN (hl v Bc);exact(h2.trans (bW0 hb hN (l:=l) h2.inv fun m hm=>hl m (Az _ hm))).le (by rw[By,Cw];exact Aq _)
theorem yY1{b:Int}{N:Nat}{l:List Vl}{k:Skt}(h:SkI b N k)(hb:0<=b)(hN:N<=1000000000)(hl:∀v∈l,VlC N v):SkS b N k (k.vs b l) (cVs l):=by
 have h1:=bW0 hb hN h hl;exact(h1.trans (w_ok h1.inv (sB 124))).le (Aq _)
theorem wC1{b:Int}{N:Nat}:∀{l:List ByteArray}{k:Skt},SkI b N k->SkS b N k (k.o2 l) (l.map fun s=>s.size+1).sum
 |[],k,h=>SkS.refl h
 |s::l,k,h=>by
  have h1:=w_ok h (s++sB 44);refine(h1.trans (wC1 (l:=l) h1.inv)).le ?_;rw[Db,By,Cw];exact Aq _
theorem gD1{b:Int}{N:Nat}{k:Skt}{o:Ob}(h:SkI b N k)(ho:ObIn o):SkS b N k (k.o1 b o) (47+10*o.name.size):=by
 have h1:=w_ok h (sB 10);have h2:=h1.trans (n_ok h1.inv ho.kd.1 ho.kd.2);have h3:=h2.trans (n_ok h2.inv ho.co.1 ho.co.2);have h4:=tP o.name;exact(h3.trans (w_ok h3.inv (quB o.name))).le (by show 1+22+22+_<=_;omega)
theorem gC1{b:Int}{N:Nat}{k:Skt}{o:Ob}{e:Bool}(h:SkI b N k)(hb:0<=b)(hN:N<=1000000000)(ho:ObC N o):SkS b N k (k.o3 b e o) 23:=by
 unfold Skt.o3;split
 ·rename_i hk;exact vT0 h hb hN om (ho.st hk.1)
 ·split
  ·exact(n_ok h ho.oin.st.1 ho.oin.st.2).le de
  ·exact(SkS.refl h).le de
theorem gB1{b:Int}{N:Nat}{k:Skt}{o:Ob}(h:SkI b N k)(hb:0<=b)(hN:N<=1000000000)(ho:ObC N o):SkS b N k (k.o4 b o) 23:=by
 unfold Skt.o4;split
 ·rename_i hk;exact vT0 h hb hN ho.oin.cl.1 (ho.cls hk)
 ·exact(SkS.refl h).le de
theorem o5_ok{b:Int}{N:Nat}{k:Skt}{o:Ob}{e:Bool}(h:SkI b N k)(hb:0<=b)(hN:N<=1000000000)(ho:ObC N o):SkS b N k (k.o5 b e o) (2+23*o.refs.length+23*o.order.length):=by
 have h1:=w_ok h (sB 59);have h2:=h1.trans (cR hb hN (l:=o.refs) h1.inv ho.refs);have h3:=h2.trans (cR hb hN (l:=if e=true then o.order else []) h2.inv fun n hn=>by
  split at hn
  ·exact ho.order n hn
  ·cases hn)
 have e5:(if e=true then o.order else []).length<=o.order.length:=by split<;>simp
 exact(h3.trans (w_ok h3.inv (sB 124))).le (by show 1+_+_+1<=_;omega)
theorem gA1{b:Int}{N:Nat}{k:Skt}{o:Ob}{e:Bool}(h:SkI b N k)(hb:0<=b)(hN:N<=1000000000)(ho:ObC N o):SkS b N k (k.ob b e o) (cO o):=by
 have h1:=gD1 h ho.oin;have h2:=h1.trans (wC1 (l:=o.names) h1.inv);have h3:=h2.trans (gC1 (e:=e) h2.inv hb hN ho);have h4:=h3.trans (gB1 h3.inv hb hN ho);have h5:=h4.trans (o5_ok (e:=e) h4.inv hb hN ho);have h6:=h5.trans (yY1 h5.inv hb hN ho.keys);exact(h6.trans (yY1 h6.inv hb hN ho.items)).le (by unfold cO;omega)
theorem cL{f:Nat->Nat}:∀{N:Nat}{L:List Nat},L.Nodup->(∀n∈L,n<N)->(L.map f).sum<=((List.range N).map f).sum
 |0,[],_,_=>Aq _
 |0,x::l,_,h=>absurd (h x Bc) (Nat.not_lt_zero _)
 |N+1,L,hn,h=>by
  have h2:=cL (f:=f) (N:=N) (hn.filter fun n=>decide (n≠N)) fun n hm=>by
   obtain⟨hm,hd⟩:=List.mem_filter.1 hm;have:=h n hm;have:=Ag hd;omega
  have h3:((L.filter fun n=> !decide (n≠N)).map f).sum<=f N:=by
   have h4:(L.filter fun n=> !decide (n≠N)).Nodup:=hn.filter _;have h5:∀n∈(L.filter fun n=> !decide (n≠N)),n=N:=fun n hm=>by simpa using(List.mem_filter.1 hm).2
   generalize (L.filter fun n=> !decide (n≠N))=M at*
   match M,h4,h5 with
   |[],_,_=>exact Ap _
   |[a],_,h5=>rw[h5 a Bc];simp
   |a::c::M,h4,h5=>
    have e1:=h5 a Bc;have e2:=h5 c (Az _ Bc);rw[List.nodup_cons]at h4;exact absurd (by rw[e1,e2];exact Bc) h4.1
  have h6:(L.map f).sum=((L.filter fun n=>decide (n≠N)).map f).sum+((L.filter fun n=> !decide (n≠N)).map f).sum:=by
   clear hn h h2 h3;induction L with
   |nil=>rfl
   |cons x l ih=>
    rw[Eb,Eb,By,Cw,ih];by_cases hx:x=N
    ·simp[hx];omega
    ·simp[hx];omega
  rw[List.range_succ,Ad,Ed,En,Eo,h6];omega
def Skt.base(b:Int)(e:Bool)(h:List Ob)(k:Skt)(m:Nat):Skt:=(List.range m).foldl (fun k i=>k.ob b e (h.getD i ob0)) k
def Skt.run(b:Int)(e:Bool)(h:List Ob):Nat->Nat->Skt->Skt
 |0,_,k=>k
 |n+1,i,k=>if i<k.ord.length then Skt.run b e h n (i+1) (k.ob b e (h.getD (k.ord.getD i 0).toNat ob0))else k
def HpC(h:List Ob):Prop:=∀o∈h,ObC h.length o
def cOs(h:List Ob)(L:List Nat):Nat:=(L.map fun i=>cO (h.getD i ob0)).sum
def cH(h:List Ob):Nat:=cOs h (List.range h.length)
theorem HpC.at{h:List Ob}(hh:HpC h){i:Nat}(hi:i<h.length):ObC h.length (h.getD i ob0):=by
 rw[Ac,Ae hi];exact hh _ (Cv _)
theorem xS0(b:Int)(e:Bool)(h:List Ob)(k:Skt)(m:Nat):Skt.base b e h k (m+1)=(Skt.base b e h k m).ob b e (h.getD m ob0):=by
 rw[Skt.base,List.range_succ,List.foldl_append];rfl
theorem kV0{b:Int}{e:Bool}{h:List Ob}{k:Skt}(hk:SkI b h.length k)(hb:0<=b)(hN:h.length<=1000000000)(hh:HpC h):∀{m:Nat},m<=h.length->SkS b h.length k (Skt.base b e h k m) (cOs h (List.range m))
 |0,_=>SkS.refl hk
 |m+1,hm=>by
  have h1:=kV0 (e:=e) hk hb hN hh (m:=m) om;rw[xS0];refine(h1.trans (gA1 h1.inv hb hN (hh.at om))).le ?_;rw[cOs,cOs,List.range_succ,Ad,Ed,En,Eo];exact Aq _
theorem wF0:∀{l:List Int},l.Nodup->(∀n∈l,0<=n)->(l.map Int.toNat).Nodup
 |[],_,_=>List.nodup_nil
 |x::l,hn,h=>by
  rw[List.nodup_cons]at hn;rw[By,List.nodup_cons];refine⟨fun hm=>?_,wF0 hn.2 fun n hm=>h n (Az _ hm)⟩;obtain⟨y,hy,e⟩:=Dc.1 hm;have h1:=h x Bc;have h2:=h y (Az _ hy);exact hn.1 ((show y=x by omega)▸hy)
theorem dI0{b:Int}{h:List Ob}{k:Skt}{m i:Nat}(hk:SkI b h.length k)(hm:(m:Int)<=b)(hm2:m<=h.length):cOs h (List.range m++(k.ord.take i).map Int.toNat)<=cH h:=by
 refine cL ?_ fun n hn=>?_
 ·rw[List.nodup_append];refine⟨List.nodup_range,wF0 (hk.nd.sublist (List.take_sublist _ _)) fun n hn=>by have:=hk.mem n (Cn hn);omega,fun a ha c hc=>?_⟩;have h1:=Ct.1 ha;obtain⟨y,hy,rfl⟩:=Dc.1 hc;have:=hk.mem y (Cn hy);omega
 ·rcases As.1 hn with hn|hn
  ·have:=Ct.1 hn;omega
  ·obtain⟨y,hy,rfl⟩:=Dc.1 hn;have:=hk.mem y (Cn hy);omega
structure Rn(b:Int)(e:Bool)(h:List Ob)(m C:Nat)(kf:Skt)where
 i:Nat
 k:Skt
 inv:SkI b h.length k
 le:i<=k.ord.length
 eq:Skt.run b e h (h.length-i) i k=kf
 len:k.out.length<=C+cOs h (List.range m++(k.ord.take i).map Int.toNat)
def Rn.start{b:Int}(e:Bool){h:List Ob}{m C:Nat}(k:Skt)(hk:SkI b h.length k)(hl:k.out.length<=C+cOs h (List.range m)):Rn b e h m C (Skt.run b e h h.length 0 k):=⟨0,k,hk,Ap _,rfl,by simpa using hl⟩
theorem Rn.at{b:Int}{e:Bool}{h:List Ob}{m C:Nat}{kf:Skt}(x:Rn b e h m C kf)(hi:x.i<x.k.ord.length):b<=x.k.ord.getD x.i 0/\x.k.ord.getD x.i 0<(h.length:Int):=by
 rw[Ac,Ae hi];exact x.inv.mem _ (Cv _)
def Rn.next{b:Int}{e:Bool}{h:List Ob}{m C:Nat}{kf:Skt}(x:Rn b e h m C kf)(hi:x.i<x.k.ord.length)(hb:0<=b)(hN:h.length<=1000000000)(hh:HpC h):Rn b e h m C kf:=
 have hs:=gA1 (e:=e) x.inv hb hN (hh.at (show(x.k.ord.getD x.i 0).toNat<h.length by have:=x.at hi;omega))
 ⟨x.i+1,x.k.ob b e (h.getD (x.k.ord.getD x.i 0).toNat ob0),hs.inv,by obtain⟨r,hr⟩:=hs.pre;rw[hr,Af];omega,by
  have hl:=x.inv.len hb;have e1:Skt.run b e h (h.length-x.i) x.i x.k=Skt.run b e h (h.length-(x.i+1)) (x.i+1) (x.k.ob b e (h.getD (x.k.ord.getD x.i 0).toNat ob0)):=by
   rw[show h.length-x.i=(h.length-(x.i+1))+1 by omega,Skt.run,Ab hi]
  exact e1.symm.trans x.eq,by
  obtain⟨r,hr⟩:=hs.pre;have h1:((x.k.ob b e (h.getD (x.k.ord.getD x.i 0).toNat ob0)).ord.take (x.i+1))=x.k.ord.take x.i++[x.k.ord.getD x.i 0]:=by
   rw[hr,Dv om,List.take_add_one,Ae hi,Ac,Ae hi];rfl
  rw[h1];have h2:=hs.len;have h3:=x.len;simp only[cOs,Ad,Ed,By,List.map_nil,Cw,List.sum_nil]at h3⊢;omega⟩
theorem Rn.fin{b:Int}{e:Bool}{h:List Ob}{m C:Nat}{kf:Skt}(x:Rn b e h m C kf)(hi:¬x.i<x.k.ord.length):x.k=kf:=by
 refine Eq.trans ?_ x.eq
 cases h.length-x.i with
 |zero=>rfl
 |succ n=>rw[Skt.run,Aa hi]
theorem Rn.bound{b:Int}{e:Bool}{h:List Ob}{m C:Nat}{kf:Skt}(x:Rn b e h m C kf)(hm:(m:Int)<=b)(hm2:m<=h.length):x.k.out.length<=C+cH h:=Au x.len (by have:=dI0 (i:=x.i) x.inv hm hm2;omega)
noncomputable def tK (h:List Ob) (b:Nat) (l:List Vl):ByteArray:=⟨(Skt.run b true h h.length 0 (Skt.base b true h (Skt.vs b ⟨[],[]⟩ l) (min b h.length))).out.toArray⟩
open Go.RowKit Go.Shelf
theorem tab_pow{w:World}{s:Sb}(hg:Glb w s):Lib.TabIs Tryz.prog w "internal/strconv.uint64pow10" .u64 Lib.pow10Tab:=by
 obtain⟨G,g1,g2,g3⟩:=hg;have hn:Tryz.prog.globalNamed "internal/strconv.uint64pow10" =some 5:=by kernel_rfl
 have h1:∀i:Nat,i<20->w.cell? ⟨5,i,none⟩=some (.int .u64 (Lib.pow10Tab.getD i 0)):=fun i hi=>(g2 _ _ _ (g1.pow10 i hi)).1;have h2:∀o:Nat,20<=o->w.cell? ⟨5,o,none⟩=none:=fun o ho=>(g3 _ _ (.pow10 o ho)).1;have hl:Lib.pow10Tab.length=20:=Lib.pow10Tab_length;unfold Lib.TabIs World.var?;rw[hn];show(match w.heap[5]? with|some (.cells cs _ _)=>some cs|_=>none)=_;have h0:=h1 0 de
 cases hb:w.heap[5]? with
 |none=>simp[World.cell?,hb]at h0
 |some o=>
  cases o with
  |cells cs t f=>
   show some cs=some _;congr 1;apply Array.ext_getElem?;intro i;rcases Br i 20 with hi|hi
   ·have h3:cs[i]?=some (.int .u64 (Lib.pow10Tab.getD i 0)):=by
     have:=h1 i hi;simpa[World.cell?,hb]using this
    rw[h3,Dt,Cc,Ae om,Ac,Ae om];rfl
   ·have h3:cs[i]?=none:=by
     have:=h2 i hi;simpa[World.cell?,hb]using this
    rw[h3,Dt,Cc,Dq om];rfl
  |_=>simp[World.cell?,hb]at h0
theorem Itoa_ok(n:Int)(h0: -9223372036854775808<=n)(h1:n<=9223372036854775807):Fx 194 [.v (.int .i64 n)] (.v (.string (itB n))):=by
 refine tU ⟨_,Tryz.func194,rfl,rfl⟩ fun w s vs hg hv=>?_;rw[tZ hv];refine(Any.strconv_Itoa Tryz.laysItoa n h0 h1 w (tab_pow hg)).mono ?_;rintro e w' ⟨rfl,k,os,rfl⟩;exact⟨rfl,Lib.below_grow _ w (Aq _) k os⟩
theorem mL0{w:World}{s:Sb}{G:Nat->Nat->Option Value}(g2:∀b o v,G b o=some v->w.cell? ⟨b,o,none⟩=some v/\s b o){g:Nat}{k:IntKind}{t:List Nat}(h:SliG G g k t):Lib.TabSlice g k t w:=by
 obtain⟨R,o,c,h1,h2⟩:=h;exact⟨R,o,c,(g2 _ _ _ h1).1,fun j hj=>(g2 _ _ _ (h2 j hj)).1⟩
theorem bC0(s:ByteArray)(hs:s.size<=1000000000):Fx 172 [.v (.string s)] (.v (.string (quB s))):=by
 refine tU ⟨_,Tryz.func172,rfl,rfl⟩ fun w s' vs hg hv=>?_;rw[tZ hv];obtain⟨G,g1,g2,_⟩:=hg
 have hT:Lib.PrintTabsAt 6 7 8 9 Lib.goPrintTabs w:=
  ⟨mL0 g2 g1.p16,mL0 g2 g1.n16,mL0 g2 g1.p32,mL0 g2 g1.n32,by decide+kernel,by decide+kernel,by decide+kernel⟩
 have hU:Lib.Utf8Tabs 1 2 w:=⟨fun c hc=>(g2 _ _ _ (g1.first c hc)).1,fun i hi=>⟨(g2 _ _ _ (g1.accept i hi).1).1,(g2 _ _ _ (g1.accept i hi).2).1⟩⟩;exact Any.strconv_Quote Tryz.laysQuote kr Lib.goPrintTabs s w om hT hU
variable{md me:Bool}
def skO(md:Bool)(h:List Ob)(b:Int)(k:Skt):List DOwn:=[.box 155 [.sl md 10 h obD ob0,.v (.int .i64 b),.mo 1 k.ord.length,.mo 2 k.out.length],.mrow 3 1 (.map k.ord iD 0),.mrow 5 1 (.map k.out u8D 0)]
theorem uF1{α:Type} [DecidableEq α]:∀(l:List α)(n:α),-1<=ixI l n
 |[],_=>by show(-1:Int)<= -1;omega
 |x::l,n=>by
  have:=uF1 l n;rw[ixI];split
  ·omega
  ·split<;>omega
theorem IndexIm_ok(l:List Int)(n:Int):Fx 160 [.sl md 1 l iD 0,.v (.int .i64 n)] (.v (.int .i64 (ixI l n))):=by
 refine yF zJ Tryz.func160 rfl rfl rfl rfl rfl rfl ?_;intros;refine wM 0 rfl fun hl0=>?_;refine zK 100 ?_;refine zB (zK 200 ?_);refine zO ?_;refine yC (ι:=Nf l n) [0,1,7] [] 250 (fun x=>[(8,.v (.int .i64 x.k))]) (fun _=>[]) (fun x=>l.length-x.k) ⟨0,Ap _,fun j hj=>by omega⟩ ?_;refine⟨⟨yG,yE,rfl,rfl⟩,fun x=>?_⟩;have hk:=x.le;refine zK 300 ?_;refine zB (zY (fun c2=>?_) (fun c2=>?_))
 ·
  refine zL (zA (zB (zO (zK 400 ?_))));refine zK 500 ?_;refine zY (fun c4=>?_) (fun c4=>?_)
  ·
   refine zK 600 ?_;refine zM (zR (zP (yS (zR (zP ?_)))));exact u4 rfl (u10 (x.found c2 c4).symm)
  ·
   refine zL (zN (zA (yM zJ [] 700 ?_)));exact zS (x.next c2 c4) ⟨yG,yE,rfl,rfl⟩ (by show l.length-(x.k+1)<l.length-x.k;omega)
 ·
  refine yD (yA (yB (zZ (zA (zK 800 ?_)))));refine zM ?_;exact u4 rfl (u10 (x.none c2).symm)
theorem uH(h:List Ob)(b:Int)(k:Skt)(s:ByteArray)(hl:k.out.length+s.size<=1073741824):FnG Tryz.prog 170 [.bp 0 0,.v (.string s)] (skO md h b k) (.v (.tuple #[])) (skO md h b (k.w s)):=by
 refine jY zJ Tryz.func170 rfl rfl rfl rfl rfl rfl rfl ?_;intros;refine zE zJ [] 100 rfl ?_;repeat(first|refine zH ?_|refine zT (by first|(simp only[MR.len];done)|(simp only[MR.len];omega)|exact Ew) ?_)
 refine zC ?_;exact FinH.normal 3 rfl rfl (u0 _) ⟨⟨rfl,u0 _,rfl,u0 _,rfl,u0 _,rfl,Sub.mo (by rw[(bE0 k s).1]),rfl,trivial⟩,SubO.mp rfl,SubO.mp (by show D.pvss (k.out.map u8D++s.data.toList.map u8D)=D.pvss ((k.out++s.data.toList).map u8D);rw[Ad]),trivial⟩
theorem vM1{P:Program}{E:Pn}{K:DS->Prop}{p:Prop}{r:Out}(hr:r.sat P E K)(hp:p:=by first|exact Au (show(itB n).size+1<=22 by omega) (by decide)|exact Ew):(Out.need p r).sat P E K:=⟨hp,hr⟩
theorem gS(h:List Ob)(b:Int)(k:Skt)(n:Int)(h0: -9223372036854775808<=n)(h1:n<=9223372036854775807)(hl:k.out.length+22<=1073741824):FnG Tryz.prog 171 [.bp 0 0,.v (.int .i64 n)] (skO md h b k) (.v (.tuple #[])) (skO md h b (k.n n)):=by
 have hz:=pQ0 h0 h1;have hz2:(itB n++sB 32).size<=22:=by rw[Db];show _+1<=_;omega
 refine jY zJ Tryz.func171 rfl rfl rfl rfl rfl rfl rfl ?_;intros;refine zE zJ [1008] 100 rfl ?_;repeat(first|refine zH ?_|refine vM1 ?_)
 refine zQ _ (Itoa_ok n h0 h1) rfl ?_;repeat(first|refine zH ?_|refine vM1 ?_)
 refine yP _ _ (uH h b k (itB n++sB 32) om) rfl ?_;repeat(first|refine zH ?_|refine vM1 ?_)
 refine zC ?_;exact FinH.normal 3 rfl rfl (u0 _) ⟨⟨rfl,u0 _,rfl,u0 _,rfl,u0 _,rfl,u0 _,rfl,trivial⟩,SubO.mp rfl,SubO.mp rfl,trivial⟩
theorem mG(h:List Ob)(b:Int)(k:Skt)(n:Int)(h0: -9223372036854775808<=n)(h1:n<=9223372036854775807)(hl:k.out.length+23<=1073741824)(ho:k.ord.length<=1000000000):FnG Tryz.prog 173 [.bp 0 0,.v (.int .i64 n)] (skO md h b k) (.v (.tuple #[])) (skO md h b (k.see b n)):=by
 have hix:=gX0 k.ord n;have hix2:=uF1 k.ord n;refine jY zJ Tryz.func173 rfl rfl rfl rfl rfl rfl rfl ?_;intros;refine zB (zK 100 ?_);refine zY (fun c0=>?_) (fun c0=>?_)
 ·
  refine zB (zE zJ [1012] 200 rfl ?_);refine zF ?_;refine yP _ _ (uH h b k (sB 35) (by show k.out.length+1<=_;omega)) rfl ?_;refine zf (zA ?_);refine yK [0,1] [] 210 [] [(0,.box 155 [.sl md 10 h obD ob0,.v (.int .i64 b),.mo 1 (k.w (sB 35)).ord.length,.mo 2 (k.w (sB 35)).out.length]),(1,.mrow 3 1 (.map (k.w (sB 35)).ord iD 0)),(2,.mrow 5 1 (.map (k.w (sB 35)).out u8D 0))] ?_;refine⟨⟨yG,⟨⟨rfl,u0 _,rfl,u0 _,rfl,Sub.mo (by simp[Skt.w,Skt.n]),rfl,Sub.mo (by simp[Skt.w,Skt.n]),rfl,trivial⟩,SubO.mp rfl,SubO.mp rfl,yE⟩,rfl,rfl⟩,?_⟩;refine zB (zE zJ [1015] 300 rfl ?_);refine zF ?_;refine yP _ _ (gS h b (k.w (sB 35)) n h0 h1 (by rw[(bE0 _ _).1];show k.out.length+1+22<=_;omega)) rfl ?_;refine zf (zA (zM (zP ?_)));rw[show k.see b n=(k.w (sB 35)).n n from Ab c0];exact u11 3 rfl rfl (u0 _) ⟨⟨rfl,u0 _,rfl,u0 _,rfl,u0 _,rfl,u0 _,rfl,trivial⟩,SubO.mp rfl,SubO.mp rfl,trivial⟩
 ·
  refine zL (zA ?_);refine zB (zE zJ [] 400 rfl ?_);refine zF ?_;refine qC _ (IndexIm_ok k.ord n) rfl rfl ?_;refine zF ?_;refine zC (zA (zB (zK 500 ?_)));refine zY (fun c4=>?_) (fun c4=>?_)
  ·
   refine zK 600 ?_;refine zE zJ [] 700 rfl ?_;repeat(first|refine zH ?_|refine zT (by first|rfl|(simp only[MR.len,Ar,An,Aw];omega)|exact Ew) ?_)
   refine zC (zA ?_);refine yK [0,4] [] 710 [] [(0,.box 155 [.sl md 10 h obD ob0,.v (.int .i64 b),.mo 1 ((⟨k.ord++[n],k.out⟩:Skt)).ord.length,.mo 2 ((⟨k.ord++[n],k.out⟩:Skt)).out.length]),(1,.mrow 3 1 (.map ((⟨k.ord++[n],k.out⟩:Skt)).ord iD 0)),(2,.mrow 5 1 (.map ((⟨k.ord++[n],k.out⟩:Skt)).out u8D 0))] ?_;refine⟨⟨yG,⟨⟨rfl,u0 _,rfl,u0 _,rfl,Sub.mo (by simp),rfl,Sub.mo (by simp),rfl,trivial⟩,SubO.mp (by show D.pvss (k.ord.map iD++[iD n])=D.pvss ((k.ord++[n]).map iD);rw[Ad];rfl),SubO.mp rfl,yE⟩,rfl,rfl⟩,?_⟩;refine zB (zE zJ [1040] 800 rfl ?_);refine zF ?_;refine yP _ _ (uH h b (⟨k.ord++[n],k.out⟩:Skt) (sB 64) (by show k.out.length+1<=_;omega)) rfl ?_;refine zf (zA ?_);refine yK [0,4] [] 810 [] [(0,.box 155 [.sl md 10 h obD ob0,.v (.int .i64 b),.mo 1 ((⟨k.ord++[n],k.out⟩:Skt).w (sB 64)).ord.length,.mo 2 ((⟨k.ord++[n],k.out⟩:Skt).w (sB 64)).out.length]),(1,.mrow 3 1 (.map ((⟨k.ord++[n],k.out⟩:Skt).w (sB 64)).ord iD 0)),(2,.mrow 5 1 (.map ((⟨k.ord++[n],k.out⟩:Skt).w (sB 64)).out u8D 0))] ?_;refine⟨⟨yG,⟨⟨rfl,u0 _,rfl,u0 _,rfl,Sub.mo (by simp[Skt.w,Skt.n]),rfl,Sub.mo (by simp[Skt.w,Skt.n]),rfl,trivial⟩,SubO.mp rfl,SubO.mp rfl,yE⟩,rfl,rfl⟩,?_⟩;refine zE zJ [1043] 900 rfl ?_;refine zF ?_;refine yP _ _ (gS h b ((⟨k.ord++[n],k.out⟩:Skt).w (sB 64)) (k.ord.length:Nat) om om (by rw[(bE0 _ _).1];show k.out.length+1+22<=_;omega)) rfl ?_;refine zf ?_;rw[show k.see b n=((⟨k.ord++[n],k.out⟩:Skt).w (sB 64)).n (k.ord.length:Nat)from(Aa (Int.not_lt.2 c0)).trans (Ab c4)];exact FinH.normal 3 rfl rfl (u0 _) ⟨⟨rfl,u0 _,rfl,u0 _,rfl,u0 _,rfl,u0 _,rfl,trivial⟩,SubO.mp rfl,SubO.mp rfl,trivial⟩
  ·
   refine zL (zA ?_);refine zB (zE zJ [1040] 800 rfl ?_);refine zF ?_;refine yP _ _ (uH h b k (sB 64) (by show k.out.length+1<=_;omega)) rfl ?_;refine zf (zA ?_);refine yK [0,4] [] 810 [] [(0,.box 155 [.sl md 10 h obD ob0,.v (.int .i64 b),.mo 1 (k.w (sB 64)).ord.length,.mo 2 (k.w (sB 64)).out.length]),(1,.mrow 3 1 (.map (k.w (sB 64)).ord iD 0)),(2,.mrow 5 1 (.map (k.w (sB 64)).out u8D 0))] ?_;refine⟨⟨yG,⟨⟨rfl,u0 _,rfl,u0 _,rfl,Sub.mo (by simp[Skt.w,Skt.n]),rfl,Sub.mo (by simp[Skt.w,Skt.n]),rfl,trivial⟩,SubO.mp rfl,SubO.mp rfl,yE⟩,rfl,rfl⟩,?_⟩;refine zE zJ [1043] 900 rfl ?_;refine zF ?_;refine yP _ _ (gS h b (k.w (sB 64)) (ixI k.ord n) om om (by rw[(bE0 _ _).1];show k.out.length+1+22<=_;omega)) rfl ?_;refine zf ?_;rw[show k.see b n=(k.w (sB 64)).n (ixI k.ord n)from(Aa (Int.not_lt.2 c0)).trans (Aa (Int.not_lt.2 c4))];exact FinH.normal 3 rfl rfl (u0 _) ⟨⟨rfl,u0 _,rfl,u0 _,rfl,u0 _,rfl,u0 _,rfl,trivial⟩,SubO.mp rfl,SubO.mp rfl,trivial⟩
variable{md me:Bool}
theorem Halve3_ok(a:Nat)(ha:(dig a).length<=10000000):Fx 189 [qN a,.v (.int .i64 16)] (.tup [qN (a/16),.v (.int .i64 ((a%16:Nat):Int))]):=kJ a 16 de ha
variable{md me:Bool}
structure Fg(a:Nat)where
 y:Nat
 o:List Nat
 eq:o++hxL y=hxL a
 le:y<=a
def Fg.next{a:Nat}(x:Fg a)(h:x.y≠0):Fg a:=⟨x.y/16,x.o++[x.y%16],by rw[Cr,List.singleton_append,<-uD0 h];exact x.eq,Au (Ep _ _) x.le⟩
theorem dig_ne{y:Nat}(h:0<(dig y).length):y≠0:=by
 rintro rfl;exact absurd h (by decide+kernel)
theorem dig_eq0{y:Nat}(h:¬0<(dig y).length):y=0:=by
 have e:dig y=[]:=Bf om;have:=xB y;rw[e]at this;exact this.symm
theorem Fg.len{a:Nat}(x:Fg a):x.o.length<=(hxL a).length:=by rw[<-x.eq,Af];omega
theorem uI1(a:Nat):(hxL a).length<=4*(dig a).length:=gZ0 (by
 have h:=V_lt (bX a);rw[xB]at h;rw[show(16:Nat)^(4*(dig a).length)=65536^(dig a).length by rw[Nat.pow_mul]];exact h)
theorem mW0{l:List Nat}{k:Nat}(h:0<k)(hk:k<=l.length):(l.drop (k-1)).reverse.map nD=(l.drop k).reverse.map nD++[nD (l.getD (k-1) 0)]:=by
 rw[Ce (show k-1<l.length by omega),List.reverse_cons,Ad,show k-1+1=k by omega,Ac,Ae (show k-1<l.length by omega)];rfl
theorem xG1{P:Program}{E:Pn}{K:DS->Prop}{p:Prop}{r:Out}(hr:r.sat P E K)(hp:p:=by first|rfl|(simp only[Ar,Et,Bq,An,Aw];omega)|exact⟨by omega,by rw[hkz];omega⟩|exact Ew):(Out.need p r).sat P E K:=⟨hp,hr⟩
theorem Figures3_ok(a:Nat)(ha:(dig a).length<=10000000):FnO Tryz.prog 213 [qN a,.v (.int .i64 16)] 3 1 ((hxL a).reverse.map nD):=by
 have hxd:=uI1 a;refine pS Tryz.func213 rfl rfl rfl rfl rfl rfl ?_;intros;refine zK 100 ?_;refine zK 200 ?_;refine yZ 5 3 1 rfl ?_;refine zB (zO ?_);refine yC (ι:=Fg a) [1] [] 250 (fun x=>[(0,qN x.y),(5,.own 200 1 (x.o.map nD))]) (fun x=>[(200,.row 3 1 (x.o.map nD).length)]) (fun x=>x.y) ⟨a,[],rfl,Aq _⟩ ?_;refine⟨⟨yG,yE,rfl,rfl⟩,fun x=>?_⟩;have hol:=x.len;refine zB (zK 300 ?_);refine zW rfl (fun c2=>?_) (fun c2=>?_)
 ·have hne:x.y≠0:=dig_ne (by simpa using c2);refine zL (zA (zO (zK 400 ?_)));refine zB (zE zJ [] 500 rfl ?_);refine zF ?_;refine zQ _ (Halve3_ok x.y (by have:=yW x.le;omega)) rfl ?_;refine zf (zA ?_);refine zE zJ [] 600 rfl ?_;repeat(first|refine zH ?_|refine xG1 ?_)
  refine zC (zN ?_);exact zS (x.next hne) ⟨⟨u0 _,Sub.own (by show _=(x.o++[x.y%16]).map nD;rw[Ad];rfl),yG⟩,⟨⟨rfl,rfl,by show _=((x.o++[x.y%16]).map nD).length;rw[Ad];rfl⟩,yE⟩,rfl,rfl⟩ (by show x.y/16<x.y;omega)
 ·have h0:x.y=0:=dig_eq0 (by simpa using c2);have hoe:x.o=hxL a:=by have:=x.eq;rwa[h0,pO,Ck]at this
  refine yD (yA (yB (zZ (zA (zK 700 ?_)))));refine yZ 7 3 1 rfl ?_;refine zB ?_;refine zB (zE zJ [] 800 rfl ?_);repeat(first|refine zH ?_|refine zT (by first|exact ini (by rw[Ar];omega) (by rw[Ar];omega)|exact Ew) ?_)
  refine zC (zA (zO ?_));refine yC (ι:={k:Nat//k<=x.o.length}) [] [] 850 (fun z=>[(8,.v (.int .i64 ((z.1:Int)-1))),(5,.sl false 1 x.o nD 0),(7,.own 700 1 ((x.o.drop z.1).reverse.map nD))]) (fun z=>[(700,.row 3 1 ((x.o.drop z.1).reverse.map nD).length)]) (fun z=>z.1) ⟨x.o.length,Aq _⟩ ?_;refine⟨⟨⟨u21 (by simp),u5 rfl,Sub.own (by rw[List.drop_length];rfl),yG⟩,⟨⟨rfl,rfl,by rw[List.drop_length];rfl⟩,yE⟩,rfl,rfl⟩,fun z=>?_⟩;have hz:z.1<=x.o.length:=z.2;have hkz:((z.1:Int)-1).toNat=z.1-1:=by omega
  refine zB (zK 900 ?_);refine zY (fun c8=>?_) (fun c8=>?_)
  ·
   refine zL (zA (zB (zO ?_)));refine zE zJ [] 1100 rfl ?_;repeat(first|refine zH ?_|refine xG1 ?_)
   refine zC (zN (zA (yM zJ [] 1200 ?_)));exact zS ⟨z.1-1,by omega⟩ ⟨⟨u21 (by show(z.1:Int)-1-1=((z.1-1:Nat):Int)-1;omega),u0 _,Sub.own (by rw[mW0 om hz,hkz];rfl),yG⟩,⟨⟨rfl,rfl,by rw[mW0 om hz];simp only[Af];rfl⟩,yE⟩,rfl,rfl⟩ (by show z.1-1<z.1;omega)
  ·
   refine yD (yA (yB (zZ (zA (zK 1200 ?_)))));refine zM ?_;have hz0:z.1=0:=by omega
   exact FinO.ret rfl rfl rfl (by rw[hz0,Dm,hoe])
variable{md me:Bool}
def txL(b:Bool)(a i:Nat):List UInt8:=(if b=true then [45]else [])++((hxL a).reverse.take i).map fun d=>UInt8.ofNat (bAt alB d)
theorem hxL_ne{a:Nat}(h:¬hxL a=[]):¬a=0:=by
 rintro rfl;exact h pO
theorem hxL_e{a:Nat}(h:hxL a=[]):a=0:=by
 by_cases h0:a=0
 ·exact h0
 ·rw[uD0 h0]at h;cases h
theorem zG1{b:Bool}{a:Nat}(h:¬a=0):hxS b a=⟨(txL b a (hxL a).length).toArray⟩:=by
 unfold hxS txL;rw[Aa h,Ak (by rw[Et];exact Aq _)]
theorem gM1{a i:Nat}(h:i<(hxL a).length):(hxL a).reverse.getD i 0<16:=by
 rw[Ac,Ae (by rw[Et];exact h)];exact uJ1 (n:=a+1) (x:=a) om (List.mem_reverse.1 (Cv _))
theorem u8_bAt(s:ByteArray)(d:Nat):[D.v (.int .u8 ((bAt s d:Nat):Int))]=u8D (UInt8.ofNat (bAt s d)):=by
 have h:=xT0 s d;show _=[D.v (.int .u8 (((UInt8.ofNat (bAt s d)).toNat:Nat):Int))];have e:(UInt8.ofNat (bAt s d)).toNat=bAt s d:=by simp;omega
 rw[e]
theorem tD0(b:Bool)(a:Nat){i:Nat}(h:i<=(hxL a).length):(txL b a i).length<=i+1:=by
 unfold txL;rw[Af,Ar,At,Et];have:(if b=true then [(45:UInt8)]else []).length<=1:=by split<;>decide
 omega
theorem qX0{b:Bool}{a i:Nat}(h:i<(hxL a).length):txL b a (i+1)=txL b a i++[UInt8.ofNat (bAt alB ((hxL a).reverse.getD i 0))]:=by
 unfold txL;rw[Cr,List.take_add_one,Ad,Ae (by rw[Et];exact h),Ac,Ae (by rw[Et];exact h)];rfl
theorem mG0{b:Bool}{a i:Nat}(h:i<(hxL a).length):(txL b a i).map u8D++[[D.v (.int .u8 ((bAt alB ((hxL a).reverse.getD i 0):Nat):Int))]]=(txL b a (i+1)).map u8D:=by
 rw[qX0 h,Ad,u8_bAt];rfl
theorem dY0:alB.size=36:=rfl
theorem xF1{P:Program}{E:Pn}{K:DS->Prop}{p:Prop}{r:Out}(hr:r.sat P E K)(hp:p:=by first|(refine⟨by omega,?_⟩;show _<36;omega)|(simp only[Ar,Et];omega)|(simp only[MR.len,Ar];done)|(rw[MR.len];omega)|(show _<alB.size;rw[dY0];omega)|(rw[dY0];omega)|exact Ew):(Out.need p r).sat P E K:=⟨hp,hr⟩
theorem xE1{P:Program}{E:Pn}{K:DS->Prop}{p:Prop}{r:Out}(hr:r.sat P E K)(hp:p:=by first|rfl|exact(congrArg (List.map u8D) (gT _)).symm|exact Ew):(Out.need p r).sat P E K:=⟨hp,hr⟩
theorem qN0(b:Bool)(a:Nat)(ha:(dig a).length<=10000000):Fx 193 [rD b a,.v (.int .i64 16)] (.v (.string (hxS b a))):=by
 have hxd:=uI1 a;refine yF zJ Tryz.func193 rfl rfl rfl rfl rfl rfl ?_;intros;refine zK 100 ?_;refine zB (zE zJ [12] 200 rfl ?_);refine zF ?_;refine qR _ _ _ (Figures3_ok a ha) ?_;refine zF ?_;refine zC (zA (zB (zK 300 ?_)));refine zW rfl (fun c2=>?_) (fun c2=>?_)
 ·have he:a=0:=hxL_e (by simpa using c2);refine zK 400 ?_;refine zM (zP ?_);exact u4 rfl (SubP.str (by rw[he];rfl))
 ·have he:¬a=0:=hxL_ne (by simpa using c2);refine zL (zA (zK 500 ?_));refine zB (zK 600 ?_);refine zY (fun c5=>?_) (fun c5=>?_)
  ·
   refine yM zJ [] 700 ?_;refine zA ?_;refine zB (zE zJ [1019] 800 rfl ?_);repeat(first|refine zH ?_|refine zT (by first|decide|exact Ew) ?_)
   refine zC (zA (zB (zK 900 ?_)));refine zO ?_;refine yC (ι:={i:Nat//i<=(hxL a).length}) [] [] 950 (fun x=>[(8,.v (.int .i64 x.1)),(7,.mo 701 (txL b a x.1).length),(5,.sl false 1 (hxL a).reverse nD 0)]) (fun x=>[(701,.mrow 5 1 (.map (txL b a x.1) u8D 0))]) (fun x=>(hxL a).length-x.1) ⟨0,Ap _⟩ ?_;refine⟨⟨⟨u21 rfl,Sub.mo (by simp[txL,c5];try rfl),u5 rfl,yG⟩,⟨SubO.mp (by simp[txL,c5];try rfl),yE⟩,rfl,rfl⟩,fun x=>?_⟩;have hk:x.1<=(hxL a).length:=x.2;have htl:=tD0 b a hk;refine zB (zK 1000 ?_);refine zW rfl (fun c9=>?_) (fun c9=>?_)
   ·have hlt:x.1<(hxL a).length:=by simpa using c9
    have h16:(hxL a).reverse.getD ((x.1:Nat):Int).toNat 0<16:=gM1 hlt;refine zL (zA (zB (zO ?_)));refine zE zJ [] 1200 rfl ?_;repeat(first|refine zH ?_|refine xF1 ?_)
    refine zC (zN (zA (yM zJ [] 1300 ?_)));exact zS ⟨x.1+1,by omega⟩ ⟨⟨u21 (by push_cast;rfl),Sub.mo (by show(txL b a x.1).length+1=_;rw[qX0 hlt,Af];rfl),u0 _,yG⟩,⟨SubO.mr (mG0 hlt),yE⟩,rfl,rfl⟩ (by show(hxL a).length-(x.1+1)<(hxL a).length-x.1;omega)
   ·have hlt:x.1=(hxL a).length:=by simp at c9;omega
    refine yD (yA (yB (zZ (zA ?_))));refine jC 701 rfl (by repeat(first|exact trivial|exact rfl|refine⟨?_,?_⟩)) (by repeat(first|exact trivial|refine⟨?_,?_⟩)) ?_;refine zB (zE zJ [] 1300 rfl ?_);repeat(first|refine zH ?_|refine xE1 ?_)
    refine zC (zA (zM ?_));exact u4 rfl (SubP.str (by rw[zG1 he,<-congrArg (txL b a) hlt];exact congrArg (fun l:List UInt8=>(⟨l.toArray⟩:ByteArray)) (gT _)))
  ·
   refine zL (zA ?_);refine zB (zE zJ [1019] 800 rfl ?_);repeat(first|refine zH ?_|refine zT (by first|decide|exact Ew) ?_)
   refine zC (zA (zB (zK 900 ?_)));refine zO ?_;refine yC (ι:={i:Nat//i<=(hxL a).length}) [] [] 950 (fun x=>[(8,.v (.int .i64 x.1)),(7,.mo 601 (txL b a x.1).length),(5,.sl false 1 (hxL a).reverse nD 0)]) (fun x=>[(601,.mrow 5 1 (.map (txL b a x.1) u8D 0))]) (fun x=>(hxL a).length-x.1) ⟨0,Ap _⟩ ?_;refine⟨⟨⟨u21 rfl,Sub.mo (by simp[txL,c5];try rfl),u5 rfl,yG⟩,⟨SubO.mp (by simp[txL,c5];try rfl),yE⟩,rfl,rfl⟩,fun x=>?_⟩;have hk:x.1<=(hxL a).length:=x.2;have htl:=tD0 b a hk;refine zB (zK 1000 ?_);refine zW rfl (fun c9=>?_) (fun c9=>?_)
   ·have hlt:x.1<(hxL a).length:=by simpa using c9
    have h16:(hxL a).reverse.getD ((x.1:Nat):Int).toNat 0<16:=gM1 hlt;refine zL (zA (zB (zO ?_)));refine zE zJ [] 1200 rfl ?_;repeat(first|refine zH ?_|refine xF1 ?_)
    refine zC (zN (zA (yM zJ [] 1300 ?_)));exact zS ⟨x.1+1,by omega⟩ ⟨⟨u21 (by push_cast;rfl),Sub.mo (by show(txL b a x.1).length+1=_;rw[qX0 hlt,Af];rfl),u0 _,yG⟩,⟨SubO.mr (mG0 hlt),yE⟩,rfl,rfl⟩ (by show(hxL a).length-(x.1+1)<(hxL a).length-x.1;omega)
   ·have hlt:x.1=(hxL a).length:=by simp at c9;omega
    refine yD (yA (yB (zZ (zA ?_))));refine jC 601 rfl (by repeat(first|exact trivial|exact rfl|refine⟨?_,?_⟩)) (by repeat(first|exact trivial|refine⟨?_,?_⟩)) ?_;refine zB (zE zJ [] 1300 rfl ?_);repeat(first|refine zH ?_|refine xE1 ?_)
    refine zC (zA (zM ?_));exact u4 rfl (SubP.str (by rw[zG1 he,<-congrArg (txL b a) hlt];exact congrArg (fun l:List UInt8=>(⟨l.toArray⟩:ByteArray)) (gT _)))
variable{md me:Bool}
theorem uF0{α:Type}{b:Int}{N:Nat}{f:Skt->α->Skt}{c:α->Nat}{P:α->Prop}(d:α)(hf:∀k a,SkI b N k->P a->SkS b N k (f k a) (c a)):
  ∀{l:List α}{k:Skt}{i:Nat},SkI b N k->(∀a∈l,P a)->i<l.length->
  SkI b N ((l.take i).foldl f k)/\((l.take i).foldl f k).out.length+c (l.getD i d)<=k.out.length+(l.map c).sum/\P (l.getD i d)/\(l.take (i+1)).foldl f k=f ((l.take i).foldl f k) (l.getD i d)
 |[],_,_,_,_,h=>absurd h (Nat.not_lt_zero _)
 |a::l,k,0,hk,hl,_=>by
  refine⟨hk,?_,hl a Bc,rfl⟩;show k.out.length+c a<=k.out.length+((a::l).map c).sum;rw[By,Cw];omega
 |a::l,k,i+1,hk,hl,h=>by
  have hs:=hf k a hk (hl a Bc);obtain⟨h1,h2,h3,h4⟩:=uF0 d hf (l:=l) (k:=f k a) (i:=i) hs.inv (fun x hx=>hl x (Az _ hx)) (by rw[An]at h;omega);have h5:=hs.len;refine⟨h1,?_,h3,h4⟩;show((l.take i).foldl f (f k a)).out.length+c (l.getD i d)<=k.out.length+((a::l).map c).sum;rw[By,Cw];omega
theorem vl_st{b:Int}{N:Nat}(hb:0<=b)(hN:N<=1000000000){l:List Vl}{k:Skt}{i:Nat}(hk:SkI b N k)(hl:∀a∈l,VlC N a)(hi:i<l.length):
  SkI b N ((l.take i).foldl (Skt.v b) k)/\((l.take i).foldl (Skt.v b) k).out.length+cV (l.getD i vl0)<=k.out.length+(l.map cV).sum/\VlC N (l.getD i vl0)/\(l.take (i+1)).foldl (Skt.v b) k=((l.take i).foldl (Skt.v b) k).v b (l.getD i vl0):=
 uF0 (b:=b) (N:=N) (f:=Skt.v b) (c:=cV) (P:=VlC N) vl0 (fun _ _ h1 h2=>v_ok h1 hb hN h2) hk hl hi
theorem sB1(n:UInt8):(sB n).size=1:=rfl
theorem lit1(n:UInt8):(⟨#[n]⟩:ByteArray).size=1:=rfl
theorem gK0{P:Program}{E:Pn}{K:DS->Prop}{p:Prop}{r:Out}(hr:r.sat P E K)(hp:p:=by first|(simp only[Db,lit1];omega)|exact Ew):(Out.need p r).sat P E K:=⟨hp,hr⟩
theorem skVal_G(h:List Ob)(b:Int)(k:Skt)(v:Vl)(hv:VlIn v)(hl:k.out.length+cV v<=1073741824)(ho:k.ord.length<=1000000000):FnG Tryz.prog 169 [.bp 0 0,.agg (vlD v)] (skO md h b k) (.v (.tuple #[])) (skO md h b (k.v b v)):=by
 have hq:=tP v.s;have hx1:=tT (b:=v.nn) hv.nl;have hx2:=tT (b:=v.dn) hv.dl;have hT:=mC0 hv;have hs1:=hv.s;have hs2:=hv.nn;have hs3:=hv.dn;have hd1:=yR1 hv.nl;have hd2:=yR1 hv.dl;have hc:cV v=60+10*v.s.size+8*v.nl.length+8*v.dl.length:=rfl;have e1:=(wE1 (k:=k) hv.k1 hv.k2).1;have e2:=(wE1 (k:=k.n v.k) hv.r1 hv.r2).1;refine jY zJ Tryz.func169 rfl rfl rfl rfl rfl rfl rfl ?_;intros;refine zK 100 ?_;refine zB (zK 200 ?_);refine zY (fun c1=>?_) (fun c1=>?_)
 ·
  refine zB (zE zJ [1010] 300 rfl ?_);refine zF ?_;refine yP _ _ (mG h b k v.r hv.r1 hv.r2 om ho) rfl ?_;refine zf (zA (zM (zP ?_)));rw[show k.v b v=k.see b v.r from Ab c1];exact u11 3 rfl rfl (u0 _) ⟨⟨rfl,u0 _,rfl,u0 _,rfl,u0 _,rfl,u0 _,rfl,trivial⟩,SubO.mp rfl,SubO.mp rfl,trivial⟩
 ·
  refine zL (zA ?_);refine zB (zE zJ [1014] 400 rfl ?_);refine zF ?_;refine yP _ _ (gS h b k v.k hv.k1 hv.k2 om) rfl ?_;refine zf (zA ?_);refine yK [0,3] [3] 410 [] [(0,.box 155 [.sl md 10 h obD ob0,.v (.int .i64 b),.mo 1 (k.n v.k).ord.length,.mo 2 (k.n v.k).out.length]),(1,.mrow 3 1 (.map (k.n v.k).ord iD 0)),(2,.mrow 5 1 (.map (k.n v.k).out u8D 0))] ?_;refine⟨⟨yG,⟨⟨rfl,u0 _,rfl,u0 _,rfl,Sub.mo (by simp[Skt.w,Skt.n]),rfl,Sub.mo (by simp[Skt.w,Skt.n]),rfl,trivial⟩,SubO.mp rfl,SubO.mp rfl,yE⟩,rfl,rfl⟩,?_⟩;refine zB (zE zJ [1018] 500 rfl ?_);refine zF ?_;refine yP _ _ (gS h b (k.n v.k) v.r hv.r1 hv.r2 om) rfl ?_;refine zf (zA ?_);refine yK [0,3] [3] 510 [] [(0,.box 155 [.sl md 10 h obD ob0,.v (.int .i64 b),.mo 1 ((k.n v.k).n v.r).ord.length,.mo 2 ((k.n v.k).n v.r).out.length]),(1,.mrow 3 1 (.map ((k.n v.k).n v.r).ord iD 0)),(2,.mrow 5 1 (.map ((k.n v.k).n v.r).out u8D 0))] ?_;refine⟨⟨yG,⟨⟨rfl,u0 _,rfl,u0 _,rfl,Sub.mo (by simp[Skt.w,Skt.n]),rfl,Sub.mo (by simp[Skt.w,Skt.n]),rfl,trivial⟩,SubO.mp rfl,SubO.mp rfl,yE⟩,rfl,rfl⟩,?_⟩;refine zX zJ [1036] [[],[],[1],[1,2],[1,2,3],[],[5],[1,2,3,5,6],[1,2,3,5,6,7],[1,2,3,4,5,6,7,8],[1,2,3,4,5,6,7,8,9],[],[11],[1,2,3,5,6,7,8,11,12],[1,2,3,5,6,7,8,11,12,13],[1,2,3,4,5,6,7,8,9,10,11,12,13,14],[1,2,3,4,5,6,7,8,9,10,11,12,13,14,15],(rgN 17)] 600 yT kr rfl ?_;repeat(first|refine zH ?_|refine gK0 ?_)
  refine zQ _ (bC0 v.s om) rfl ?_;repeat(first|refine zH ?_|refine gK0 ?_)
  refine zQ _ (xP v.nn v.nl hv.nl om) rfl ?_;repeat(first|refine zH ?_|refine gK0 ?_)
  refine zQ _ (qN0 v.nn (VL v.nl) om) rfl ?_;repeat(first|refine zH ?_|refine gK0 ?_)
  refine zQ _ (xP v.dn v.dl hv.dl om) rfl ?_;repeat(first|refine zH ?_|refine gK0 ?_)
  refine zQ _ (qN0 v.dn (VL v.dl) om) rfl ?_;repeat(first|refine zH ?_|refine gK0 ?_)
  refine yP _ _ (uH h b ((k.n v.k).n v.r) (vlT v) om) rfl ?_;repeat(first|refine zH ?_|refine gK0 ?_)
  refine zC ?_;rw[show k.v b v=((k.n v.k).n v.r).w (vlT v)from Aa c1];exact FinH.normal 3 rfl rfl (u0 _) ⟨⟨rfl,u0 _,rfl,u0 _,rfl,u0 _,rfl,u0 _,rfl,trivial⟩,SubO.mp rfl,SubO.mp rfl,trivial⟩
theorem mU(h:List Ob)(b:Int)(N:Nat)(k:Skt)(l:List Vl)(hb:0<=b)(hN0:N<=1000000000)(hk:SkI b N k)(hv:∀a∈l,VlC N a)(hl:k.out.length+cVs l<=1073741824)(hll:l.length<=2000000):FnG Tryz.prog 134 [.bp 0 0,.sl false 7 l vlD vl0] (skO md h b k) (.v (.tuple #[])) (skO md h b (k.vs b l)):=by
 have hc:cVs l=(l.map cV).sum+1:=rfl;refine jY zJ Tryz.func134 rfl rfl rfl rfl rfl rfl rfl ?_;intros;refine wM 1 rfl fun hl1=>?_;refine zB (zK 100 ?_);refine zO ?_;refine yC (ι:={i:Nat//i<=l.length}) [0,6,7] [] 150 (fun x=>[(8,.v (.int .i64 x.1))]) (fun x=>[(0,.box 155 [.sl md 10 h obD ob0,.v (.int .i64 b),.mo 1 (((l.take x.1).foldl (Skt.v b) k)).ord.length,.mo 2 (((l.take x.1).foldl (Skt.v b) k)).out.length]),(1,.mrow 3 1 (.map (((l.take x.1).foldl (Skt.v b) k)).ord iD 0)),(2,.mrow 5 1 (.map (((l.take x.1).foldl (Skt.v b) k)).out u8D 0))]) (fun x=>l.length-x.1) ⟨0,Ap _⟩ ?_;refine⟨⟨⟨u21 rfl,yG⟩,⟨⟨rfl,u0 _,rfl,u0 _,rfl,Sub.mo (by simp[Skt.w,Skt.n]),rfl,Sub.mo (by simp[Skt.w,Skt.n]),rfl,trivial⟩,SubO.mp rfl,SubO.mp rfl,yE⟩,rfl,rfl⟩,fun x=>?_⟩;have hk0:x.1<=l.length:=x.2;refine zK 200 ?_;refine zB (zW rfl (fun c1=>?_) (fun c1=>?_))
 ·have hlt:x.1<l.length:=by simpa using c1
  obtain⟨hI,hL,hP,hN⟩:=vl_st hb hN0 hk hv hlt;have hI2:=hI.len hb;refine zL (zA (zB (zO (zK 300 ?_))));refine zE zJ [1014] 400 rfl ?_;refine zF ?_;refine yP _ _ (skVal_G h b ((l.take x.1).foldl (Skt.v b) k) (l.getD x.1 vl0) hP.vin om om) rfl ?_;refine zF ?_;refine zC (zN (zA (yM zJ [] 500 ?_)));exact zS ⟨x.1+1,by omega⟩ ⟨⟨u21 (by push_cast;rfl),yG⟩,⟨⟨rfl,u0 _,rfl,u0 _,rfl,Sub.mo (congrArg (fun k:Skt=>k.ord.length) hN).symm,rfl,Sub.mo (congrArg (fun k:Skt=>k.out.length) hN).symm,rfl,trivial⟩,SubO.mp (congrArg (fun k:Skt=>D.pvss (k.ord.map iD)) hN).symm,SubO.mp (congrArg (fun k:Skt=>D.pvss (k.out.map u8D)) hN).symm,yE⟩,rfl,rfl⟩ (by show l.length-(x.1+1)<l.length-x.1;omega)
 ·have hke:x.1=l.length:=by simp at c1;omega
  have htk:l.take x.1=l:=Ak om;refine yD (yA (yB (zZ (zA ?_))));refine yK [0] [] 210 [] [(0,.box 155 [.sl md 10 h obD ob0,.v (.int .i64 b),.mo 1 (l.foldl (Skt.v b) k).ord.length,.mo 2 (l.foldl (Skt.v b) k).out.length]),(1,.mrow 3 1 (.map (l.foldl (Skt.v b) k).ord iD 0)),(2,.mrow 5 1 (.map (l.foldl (Skt.v b) k).out u8D 0))] ?_;refine⟨⟨yG,⟨⟨rfl,u0 _,rfl,u0 _,rfl,Sub.mo (by rw[htk]),rfl,Sub.mo (by rw[htk]),rfl,trivial⟩,SubO.mp (by rw[htk]),SubO.mp (by rw[htk]),yE⟩,rfl,rfl⟩,?_⟩;refine zE zJ [1017] 600 rfl ?_;refine zF ?_;refine yP _ _ (uH h b (l.foldl (Skt.v b) k) (sB 124) (by have h1:=(bW0 hb hN0 hk hv).len;show _+1<=_;omega)) rfl ?_;refine zf ?_;exact FinH.normal 3 rfl rfl (u0 _) ⟨⟨rfl,u0 _,rfl,u0 _,rfl,u0 _,rfl,u0 _,rfl,trivial⟩,SubO.mp rfl,SubO.mp rfl,trivial⟩
end Go.Proofs.YtpmjepoceakikaaGreatDoor
