/-OperatorsItemMatchesSpec:the given statement. Condition:what the law reads is of bulk at most 1048576 (the second form);the listed variables start as the program's text lays them. -/
import Derived.Test.YtammfbdgjnkolaaGreatDoorM32
import Derived.ProofKit
import Derived.OpenShut
import Derived.ShutString
import Derived.Deep.Matrix
import Derived.Test.YtammfbdgjnkolaaGreatDoorCards
import Derived.Test.YtammfbdgjnkolaaGreatDoorTie
import Derived.Lib.LaidU8T
import Derived.Deep.DeepWitnessRowRef
import Derived.PinnedBridge
import Derived.Lib.LaidSlice
namespace Go.Proofs.YtammfbdgjnkolaaGreatDoor
open Go.RowKit
theorem jB0{v:Vl}(h:qH v=true):v.nl.length<=128/\v.dl.length<=128/\v.s.size<=4000:=by
 have hz:∀{b:Bool}{l:List Nat},zI b l=true->l.length<=128:=fun h=>by rw[zI,jJ0]at h;rw[h.2];decide
 have hi:∀{b:Bool}{l:List Nat},uH b l=true->l.length<=128:=fun h=>by
  simp only[uH,Aj,Ap]at h;exact h.1
 have he:∀{s:ByteArray},emS s=true->s.size<=4000:=fun h=>by
  have:=Ag h;subst this;decide
 unfold qH at h;repeat' split at h
 all_goals (try simp only[Aj,Ap]at h)
 ·exact⟨hz h.1.1.1,hz h.1.1.2,he h.1.2⟩
 ·exact⟨hz h.1.1.1,hz h.1.1.2,he h.1.2⟩
 ·exact⟨hi h.1.1.1,hz h.1.1.2,he h.1.2⟩
 ·have hr:=h.1.1.1;simp only[ratS,Aj]at hr;exact⟨hi hr.1.1.1,hi hr.1.1.2,he h.1.2⟩
 ·exact⟨hz h.1.1.1.1,hz h.1.1.1.2,by have:=h.2;omega⟩
 ·exact⟨hz h.1.1.1,hz h.1.1.2,by have:=h.2;omega⟩
 ·have hd:=h.2;simp only[dotS,Aj,Ap]at hd;exact⟨hz h.1.1.1,hz h.1.1.2,by have:=hd.2;omega⟩
 ·exact⟨hz h.1.1,hz h.1.2,he h.2⟩
 ·cases h
theorem mF0{v:Vl}(h:qH v=true):cV v<=2108+10*v.s.size:=by
 have:=jB0 h;unfold cV;omega
theorem yA1(o:Ob)(v:Vl):cV (fixV o v)=cV v/\(fixV o v).s=v.s:=by
 unfold fixV;split<;>exact⟨rfl,rfl⟩
theorem bA0:∀{l:List Vl},(∀v∈l,cV v<=2108+10*v.s.size)->cVs l<=2108*l.length+10*(l.map fun v=>v.s.size).sum+1
 |[],_=>Ar _
 |v::l,h=>by
  have h1:=h v Bc;have h2:=bA0 (l:=l) fun x hx=>h x (Be _ hx);unfold cVs at h2⊢;rw[Bw,Cn,Bw,Cn,Am];omega
theorem kQ(f:Nat->Nat):∀n,sumN f n=((List.range n).map f).sum
 |0=>rfl
 |n+1=>by rw[sumN,kQ f n,Ec,Ad,Es,List.map_singleton,List.sum_singleton]
theorem dV{α:Type}(g:α->Nat)(d:α):∀l:List α,((List.range l.length).map fun j=>g (l.getD j d)).sum=(l.map g).sum
 |[]=>rfl
 |x::l=>by
  rw[Am,List.range_succ_eq_map,Bw,Cn,Cw,Bw,Cn,<-dV g d l];rfl
theorem bytO_eq(o:Ob):bytO o (kvs o).length=((kvs o).map fun v=>v.s.size).sum:=by
 rw[bytO,kQ];exact dV (fun v:Vl=>v.s.size) vl0 (kvs o)
theorem uQ1:∀{l seen:List ByteArray},nmF seen l=0->∀s∈l,wK s=true
 |[],_,_,_,h=>by cases h
 |x::l,seen,h,s,hs=>by
  rw[nmF]at h;split at h
  ·cases h
  ·rename_i h1;split at h
   ·cases h
   ·rcases Bi.1 hs with rfl|hs
    ·simpa using h1
    ·exact uQ1 h s hs
theorem zH0{s:ByteArray}(h:wK s=true):s.size<=24:=by
 simp only[wK,Aj,Bq,Dt,Ay]at h;have:=h.1.2;omega
theorem wK0:∀{l:List ByteArray},(∀s∈l,s.size<=24)->(l.map fun s=>s.size+1).sum<=25*l.length
 |[],_=>Ar _
 |s::l,h=>by
  have h1:=h s Bc;have h2:=wK0 (l:=l) fun x hx=>h x (Be _ hx);rw[Bw,Cn,Am];omega
theorem wL0{o:Ob}(hs:jY o=0)(hz:wD o=0):o.name.size<=60:=by
 by_cases hc:Lib.contains (uI o.kind).data.toList [110]=true
 ·unfold wD at hz;rw[hc,Dm]at hz;split at hz
  ·cases hz
  ·rename_i h1;have h1:kF o=true:=by simpa using h1
   unfold kF at h1;split at h1
   ·simp only[dotS,Aj,Ap]at h1;have:=h1.2;omega
   ·have:=zH0 h1;omega
 ·unfold jY at hs;split at hs
  ·rename_i h1;have h2:=Bl.1 h1 0 de;have e:(lettersB.extract ((0:Nat):Int).toNat (((0:Nat):Int)+1).toNat).data.toList=[110]:=by decide+kernel
   unfold ltP at h2;rw[e]at h2;have hc:Lib.contains (uI o.kind).data.toList [110]=false:=by simpa using hc
   rw[hc]at h2;have h3:decide (o.name=⟨#[]⟩)=true:=by simpa[xJ0]using h2
   have:=Ag h3;rw[this];decide
  ·cases hs
theorem sizes_le{o:Ob}(hz:wD o=0):o.names.length<=200/\o.items.length<=1000/\o.keys.length<=1000/\o.refs.length<=1000:=by
 unfold wD at hz;split at hz
 ·cases hz
 ·split at hz
  ·cases hz
  ·rename_i h2;simp only[Dl,Ap,not_or]at h2;obtain⟨h3,h4⟩:=h2;unfold mx3 at h3;repeat' split at h3
   all_goals omega
theorem order_le{h:List Ob}{o:Ob}{i:Int}(hs:jY o=0)(ho:vR h o i=true):o.order.length<=40:=by
 by_cases hk:o.kind=9
 ·unfold vR at ho;rw[Aa (fun hh=>hh hk)]at ho;simp only[Aj,Ap]at ho;rw[ho.2,Ae];have:(vU (jR0 h o)).1.length<=39:=by
   unfold vU;repeat' split
   ·exact Aq _
   ·exact Aq _
   ·exact Aq _
   ·show(mgS (jR0 h o)).1.length<=39;omega
  show 1+_<=_;omega
 ·rw[(gN0 hs).2.2.2.2 hk];exact Aq _
theorem cO_hi{h:List Ob}{o:Ob}{i:Nat}(g:Uho h o i):cO o<=6704+2108*(o.items.length+o.keys.length+o.refs.length)+10*((kvs o).map fun v=>v.s.size).sum:=by
 have v:=tH g.vals;have h1:=wL0 g.shape g.sizes;have h2:=sizes_le g.sizes;have h3:=order_le g.shape g.order;have h4:=wK0 fun s hs=>zH0 (uQ1 g.names s hs);have hv:∀x∈o.keys++o.items,cV x<=2108+10*x.s.size:=fun x hx=>by
  have e:=yA1 o x;have:=mF0 (v.ok x hx);rw[e.1,e.2]at this;exact this
 have h5:=bA0 (l:=o.keys) fun x hx=>hv x (Av.2 (.inl hx));have h6:=bA0 (l:=o.items) fun x hx=>hv x (Av.2 (.inr hx));have h7:((kvs o).map fun v=>v.s.size).sum=(o.items.map fun v=>v.s.size).sum+(o.keys.map fun v=>v.s.size).sum:=by
  rw[kvs,Ad,Es]
 have hc:cO o=120+10*o.name.size+(o.names.map fun s=>s.size+1).sum+23*o.refs.length+23*o.order.length+cVs o.keys+cVs o.items:=rfl;rw[hc,h7];omega
theorem bg_ok:(List.range 49).all (fun i=>decide (cO (bgO i)<=6704)&&(((bgO i).refs.all fun n=>decide (0<=n)&&decide (n<49))&&((bgO i).order.all fun n=>decide (0<=n)&&decide (n<49))))=true:=by decide+kernel
theorem qC1{i:Nat}(hi:i<49):cO (bgO i)<=6704/\(∀n∈(bgO i).refs,0<=n/\n<49)/\∀n∈(bgO i).order,0<=n/\n<49:=by
 have h:=Bl.1 bg_ok i (Ct.2 hi);simp only[Aj,Ap,Bl]at h;exact⟨h.1,h.2.1,h.2.2⟩
theorem wE0(h:List Ob)(i:Nat):yJ h (i:Nat)=h.getD i ob0:=by
 show h.getD ((i:Nat):Int).toNat ob0=_;rw[Ak]
theorem mT{h:List Ob}{n:Int}(hn:qA h n=true):0<=n/\n<(h.length:Int):=by
 have:=uZ hn;omega
theorem tL0{h:List Ob}(g:Uh h)(hh:HpIn h){i:Nat}(hi:i<h.length):ObC h.length (yJ h i):=by
 have hin:=hh.at (i:Nat);have hlo:=g.lo;by_cases h49:i<49
 ·have e:=g.lo_at h49;have hb:=qC1 h49;rw[e]at hin⊢;exact⟨hin,fun hk=>absurd hk (by show ¬(9:Int)=18;decide),fun hk=>absurd hk (by show ¬((9:Int)=10\/(9:Int)=7);decide),fun n hn=>by have:=hb.2.1 n hn;omega,fun n hn=>by have:=hb.2.2 n hn;omega,(fun v hv=>by cases hv),(fun v hv=>by cases hv)⟩
 ·have u:=g.hi_at om hi;have v:=tH u.vals;refine⟨hin,fun hk=>?_,fun _=>(mT v.cls).2,fun n hn=>mT (v.refs n hn),fun n hn=>mT (v.order n hn),fun x hx=>⟨hin.kv x hx,fun hk=>(mT (v.vals x (Av.2 (.inl hx)) hk)).2⟩,fun x hx=>⟨hin.iv x hx,fun hk=>(mT (v.vals x (Av.2 (.inr hx)) hk)).2⟩⟩;have hst:=(gN0 u.shape).2.2.1;by_cases h0:(yJ h i).state=0
  ·omega
  ·have h1:=v.weak hk h0;rw[vF0 om hin.st.2]at h1;exact(mT h1).2
theorem mem_obAt{h:List Ob}{o:Ob}(ho:o∈h):∃i,i<h.length/\o=yJ h (i:Nat):=by
 obtain⟨i,hi,e⟩:=List.getElem_of_mem ho;exact⟨i,hi,by rw[wE0,Af,Ac hi,<-e];rfl⟩
theorem vJ0{h:List Ob}(g:Uh h)(hh:HpIn h):HpC h:=fun o ho=>by
 obtain⟨i,hi,rfl⟩:=mem_obAt ho;exact tL0 g hh hi
theorem qB1(h:List Ob):cH h=(h.map cO).sum:=dV cO ob0 h
theorem pr_sums{h:List Ob}(hp:(qE h).1=0):sumN (nodN h) h.length<=20000/\sumN (bytN h) h.length<=200000:=by
 have g:=vX1 hp;have hhi:=kG1 hp;unfold qE at hp;rw[Aa om,Aa (by have:=g.lo;omega)]at hp;have hn:(List.range h.length).find? (fun i=> !decide (xP h i=0))=none:=by
  rw[List.find?_range_eq_none];intro i hi;simp[g.code i hi]
 rw[hn]at hp
 dsimp only at hp
 split at hp
 ·cases hp
 ·omega
theorem tY0{f a b:Nat->Nat}{c:Nat}:∀{n:Nat},(∀i,i<n->f i<=c+2108*a i+10*b i)->((List.range n).map f).sum<=c*n+2108*((List.range n).map a).sum+10*((List.range n).map b).sum
 |0,_=>Aq _
 |n+1,h=>by
  have h1:=tY0 (n:=n) fun i hi=>h i om;have h2:=h n om;rw[Ec,Ad,Es,Ad,Es,Ad,Es,List.map_singleton,List.map_singleton,List.map_singleton,List.sum_singleton,List.sum_singleton,List.sum_singleton,Nat.mul_succ];omega
theorem jD0{h:List Ob}(hp:(qE h).1=0):cH h<=80000000:=by
 have g:=vX1 hp;have hs:=pr_sums hp;rw[kQ,kQ]at hs;have h1:cH h<=6704*h.length+2108*((List.range h.length).map (nodN h)).sum+10*((List.range h.length).map (bytN h)).sum:=by
  refine tY0 fun i hi=>?_;rw[<-wE0];by_cases h49:i<49
  ·have hb:=(qC1 h49).1;rw[g.lo_at h49];omega
  ·have hc:=cO_hi (g.hi_at om hi);have e1:nodN h i=(yJ h i).items.length+(yJ h i).keys.length+(yJ h i).refs.length:=Aa om;have e2:bytN h i=bytO (yJ h i) (kvs (yJ h i)).length:=Aa om;rw[e1,e2,bytO_eq];exact hc
 have:=kG1 hp;omega
theorem cI0(f:Ob->Nat):∀(h:List Ob)(r:Nat)(o:Ob),((h.set r o).map f).sum<=(h.map f).sum+f o
 |[],_,_=>Aq _
 |x::h,0,o=>by
  show(((o::h).map f).sum<=_);rw[Bw,Cn,Bw,Cn];omega
 |x::h,r+1,o=>by
  have:=cI0 f h r o;show(((x::h.set r o).map f).sum<=_);rw[Bw,Cn,Bw,Cn];omega
theorem cH_set(h:List Ob)(r:Nat)(o:Ob):cH (h.set r o)<=cH h+cO o:=by
 rw[qB1,qB1];exact cI0 cO h r o
theorem hpC_set{h:List Ob}(hh:HpC h){r:Nat}{o:Ob}(ho:ObC h.length o):HpC (h.set r o):=fun x hx=>by
 rw[Bu];rcases Dy hx with hx|rfl
 ·exact hh x hx
 ·exact ho
theorem mem_cO{h:List Ob}{o:Ob}(ho:o∈h):cO o<=cH h:=by
 rw[qB1];induction h with
 |nil=>cases ho
 |cons x h ih=>
  rw[Bw,Cn];rcases Bi.1 ho with rfl|ho
  ·omega
  ·have:=ih ho;omega
theorem cVs_vok{l:List Vl}(h:∀v∈l,qH v=true):cVs l<=42108*l.length+1:=by
 have h1:=bA0 fun v hv=>mF0 (h v hv);have h2:(l.map fun v=>v.s.size).sum<=4000*l.length:=by
  clear h1;induction l with
  |nil=>exact Ar _
  |cons v l ih=>
   have:=ih fun x hx=>h x (Be _ hx);have:=(jB0 (h v Bc)).2.2;rw[Bw,Cn,Am];omega
 omega
theorem zI1{n:Int}(h0: -9223372036854775808<=n)(h1:n<=9223372036854775807):VlIn (nuV n)/\(nuV n).nl.length<=2:=by
 have hl:(nuV n).nl.length<=2:=qV (k:=2) (by show n.natAbs<_;omega);exact⟨⟨(by decide:(-9223372036854775808:Int)<=2),(by decide:(2:Int)<=9223372036854775807),(by decide:(-9223372036854775808:Int)<=0),(by decide:(0:Int)<=9223372036854775807),yV _,(fun _ h=>by cases h),by omega,(by decide:0<=2000000),(by decide:ByteArray.empty.size<=2000000)⟩,hl⟩
theorem zJ1{n:Int}(h0: -9223372036854775808<=n)(h1:n<=9223372036854775807):cV (nuV n)<=76:=by
 have h:=(zI1 h0 h1).2;have e:cV (nuV n)=60+10*0+8*(nuV n).nl.length+8*0:=rfl;omega
theorem jM1{N:Nat}{n:Int}(h0: -9223372036854775808<=n)(h1:n<=9223372036854775807):VlC N (nuV n):=⟨(zI1 h0 h1).1,fun hk=>absurd hk (by show ¬(2:Int)=6;decide)⟩
theorem byV_C{N:Nat}{t:ByteArray}(ht:t.size<=2000000):VlC N (byV t):=⟨⟨(by decide:(-9223372036854775808:Int)<=5),(by decide:(5:Int)<=9223372036854775807),(by decide:(-9223372036854775808:Int)<=0),(by decide:(0:Int)<=9223372036854775807),(fun _ h=>by cases h),(fun _ h=>by cases h),(by decide:0<=2000000),(by decide:0<=2000000),ht⟩,fun hk=>absurd hk (by show ¬(5:Int)=6;decide)⟩
theorem mN(N:Nat):VlC N vl0:=⟨jY1,fun hk=>absurd hk (by show ¬(0:Int)=6;decide)⟩
theorem kP1{v:Vl}(h:VlIn v):cV v<=52000060:=by
 have:=h.s;have:=h.nn;have:=h.dn;unfold cV;omega
structure StC(N:Nat)(s:St):Prop where
 i:StI s
 t:s.s.size<=2000000
 v:VlC N s.v
 w:VlC N s.w
 l:∀x∈s.l,VlC N x
 cl:cVs s.l<=300000000
theorem vZ1{N:Nat}{s:St}(h:StC N s):(∀x∈spW s,VlC N x)/\(∀x∈spW s,True)/\cVs (spW s)<=450000000:=by
 have h1:=jM1 (N:=N) h.i.k1 h.i.k2;have h2:=jM1 (N:=N) h.i.c1 h.i.c2;have hl:=h.i.l;have h3:=jM1 (N:=N) (n:=(s.l.length:Nat)) om om;refine⟨fun x hx=>?_,fun _ _=>trivial,?_⟩
 ·unfold spW spV at hx;simp only[Bi]at hx;rcases hx with rfl|rfl|rfl|rfl|rfl|rfl|hx
  ·exact h3
  ·exact h1
  ·exact h2
  ·exact byV_C h.t
  ·exact h.v
  ·exact h.w
  ·exact h.l x hx
 ·have c1:=zJ1 h.i.k1 h.i.k2;have c2:=zJ1 h.i.c1 h.i.c2;have c3:=zJ1 (n:=(s.l.length:Nat)) om om;have c4:cV (byV s.s)=60+10*s.s.size+8*0+8*0:=rfl;have c5:=kP1 h.v.vin;have c6:=kP1 h.w.vin;have ht:=h.t;have c7:=h.cl;unfold cVs at c7⊢;unfold spW spV;simp only[Bw,Cn];omega
theorem gA{h:List Ob}{s:St}(hc:HpC h)(hn:h.length<=2000000)(hs:StC h.length s)(hq:cH h<=600000000):Skc h (pvS [s]):=by
 obtain⟨h1,_,h3⟩:=vZ1 hs;have e:pvS [s]=spW s:=by simp[pvS]
 have hl:=cQ hs.i;exact⟨hc,hn,by rw[e];exact h1,by rw[e];omega,by rw[e];omega⟩
theorem dR{h a:List Ob}{l:List St}{s:St}(hl:h.length<=a.length):jJ1 h a l s a l s=true:=by
 unfold jJ1;have:(h.length:Int)<=(a.length:Int):=by omega
 simp[this]
def Gv(h:List Ob)(v:Vl):Prop:=qH v=true/\VlC h.length v
theorem zU1{h:List Ob}{v:Vl}(hi:VlIn v)(hh:hasS h v=true):Gv h v:=by
 refine⟨?_,hi,fun hk=>(mT (zM0 hh hk)).2⟩;simp only[hasS,Aj]at hh;exact hh.1
theorem pN0{h:List Ob}(g:Uh h)(hh:HpIn h){v:Vl}(hk:(zT h v).kind=2\/(zT h v).kind=3\/(zT h v).kind=4):(∀x∈(zT h v).keys,Gv h x)/\∀x∈(zT h v).items,Gv h x:=by
 obtain⟨h6,ho,e⟩:=jR (h:=h) (v:=v) om;rw[e]at hk⊢;have hin:=yW ho;have h49:¬v.r.toNat<49:=fun hl=>by
  rw[show yJ h v.r=bgO v.r.toNat from g.lo_at hl]at hk;exact absurd hk (by show ¬((9:Int)=2\/(9:Int)=3\/(9:Int)=4);decide)
 have u:=g.hi_at (i:=v.r.toNat) om hin.2;have oc:=tL0 g hh (i:=v.r.toNat) hin.2;rw[<-wE hin]at u oc;have vs:=tH u.vals;have hok:∀x∈(yJ h v.r).keys++(yJ h v.r).items,qH x=true:=fun x hx=>by
  have:=vs.ok x hx
  rwa[fixV,Aa om]at this
 exact⟨fun x hx=>⟨hok x (Av.2 (.inl hx)),oc.keys x hx⟩,fun x hx=>⟨hok x (Av.2 (.inr hx)),oc.items x hx⟩⟩
theorem gT1{h:List Ob}(hc:HpC h){v:Vl}(hk:(zT h v).kind≠0):ObC h.length (zT h v)/\cO (zT h v)<=cH h:=by
 obtain⟨h6,ho,e⟩:=jR (h:=h) (v:=v) hk;rw[e];have hl:=(yW ho).2;have hm:yJ h v.r∈h:=by
  show h.getD v.r.toNat ob0∈h;rw[Af,Ac hl];exact Cj _
 exact⟨hc _ hm,mem_cO hm⟩
theorem wL1{h:List Ob}(hc:HpC h){v:Vl}(hk:(zT h v).kind≠0){K I:List Vl}(hK:∀x∈K,VlC h.length x)(hI:∀x∈I,VlC h.length x)(lK:K.length<=2000000)(lI:I.length<=2000000):
  HpC (h.set v.r.toNat {zT h v with keys:=K,items:=I})/\cH (h.set v.r.toNat {zT h v with keys:=K,items:=I})<=cH h+cH h+cVs K+cVs I:=by
 obtain⟨oc,co⟩:=gT1 hc hk;have oi:=oc.oin;refine⟨hpC_set hc ⟨⟨oi.kd,oi.cl,oi.co,oi.st,oi.nm,oi.rl,oi.ol,oi.nl,lI,lK,oi.ns,fun x hx=>(hI x hx).vin,fun x hx=>(hK x hx).vin⟩,oc.st,oc.cls,oc.refs,oc.order,hK,hI⟩,?_⟩;have h1:=cH_set h v.r.toNat {zT h v with keys:=K,items:=I};have e1:cO {zT h v with keys:=K,items:=I}=120+10*(zT h v).name.size+((zT h v).names.map fun s=>s.size+1).sum+23*(zT h v).refs.length+23*(zT h v).order.length+cVs K+cVs I:=rfl;have e2:cO (zT h v)=120+10*(zT h v).name.size+((zT h v).names.map fun s=>s.size+1).sum+23*(zT h v).refs.length+23*(zT h v).order.length+cVs (zT h v).keys+cVs (zT h v).items:=rfl;omega
theorem qS0{h:List Ob}{l:List Vl}(hl:∀x∈l,Gv h x):cVs l<=42108*l.length+1:=cVs_vok fun v hv=>(hl v hv).1
theorem tooB_size:tooB.size<=100:=by decide
theorem cC0(N:Nat):StC N (raS 42 tooB):=⟨⟨(by decide:(-9223372036854775808:Int)<=1),(by decide:(1:Int)<=9223372036854775807),(by decide:(-9223372036854775808:Int)<=42),(by decide:(42:Int)<=9223372036854775807),(by decide:0<=1000000)⟩,(by have:=tooB_size;show tooB.size<=_;omega),mN N,mN N,(fun _ h=>by cases h),(by decide:cVs []<=300000000)⟩
theorem cB0{N:Nat}{v:Vl}(hv:VlC N v):StC N (vlS v):=⟨⟨(by decide:(-9223372036854775808:Int)<=0),(by decide:(0:Int)<=9223372036854775807),(by decide:(-9223372036854775808:Int)<=0),(by decide:(0:Int)<=9223372036854775807),(by decide:0<=1000000)⟩,(by decide:ByteArray.empty.size<=2000000),hv,mN N,(fun _ h=>by cases h),(by decide:cVs []<=300000000)⟩
structure Ef(h h':List Ob)(s:St):Prop where
 len:h'.length=h.length
 st:StI s
 sk:Skc h' (pvS [s])
variable{md me:Bool}
theorem gY1{h:List Ob}(g:Uh h){n:Int}(hn:inH h n):(yJ h n).name.size<=700:=by
 by_cases h49:n.toNat<49
 ·rw[show yJ h n=bgO n.toNat from g.lo_at h49];have h1:=(qC1 h49).1;have h2:cO (bgO n.toNat)=120+10*(bgO n.toNat).name.size+((bgO n.toNat).names.map fun s=>s.size+1).sum+23*(bgO n.toNat).refs.length+23*(bgO n.toNat).order.length+cVs (bgO n.toNat).keys+cVs (bgO n.toNat).items:=rfl;omega
 ·have u:=g.hi_at (i:=n.toNat) om hn.2;rw[<-wE hn]at u;have:=wL0 u.shape u.sizes;omega
theorem gG0{N:Nat}{c:Int}{s:ByteArray}(h0:0<=c)(h1:c<=1000)(hs:s.size<=2000000):StC N (raS c s):=⟨⟨(by decide:(-9223372036854775808:Int)<=1),(by decide:(1:Int)<=9223372036854775807),(by show-9223372036854775808<=c;omega),(by show c<=9223372036854775807;omega),(by decide:0<=1000000)⟩,hs,mN N,mN N,(fun _ h=>by cases h),(by decide:cVs []<=300000000)⟩
theorem mO(N:Nat):StC N st0:=⟨⟨(by decide:(-9223372036854775808:Int)<=0),(by decide:(0:Int)<=9223372036854775807),(by decide:(-9223372036854775808:Int)<=0),(by decide:(0:Int)<=9223372036854775807),(by decide:0<=1000000)⟩,(by decide:ByteArray.empty.size<=2000000),mN N,mN N,(fun _ h=>by cases h),(by decide:cVs []<=300000000)⟩
theorem gX0{h:List Ob}(g:Uh h){k:Vl}(hv:Vd h k)(N:Nat):StC N (keyR h k):=by
 rcases pO g hv with hc|hc|hc
 ·rw[hc.2.2.2.2.2];have hb:=jL1 g 1001 k 1000 hv;have:=gY1 g (qQ0 g (yV0 g (mE hb)));refine gG0 de de ?_;rw[Da,Da];have e1:kqB.size=1:=rfl;have e2:kmB.size<=100:=by decide
  omega
 ·rw[hc.2.2.2];exact cC0 N
 ·rw[hc.2.2.2.2.2];exact mO N
theorem kH1{h:List Ob}{v:Vl}(hs:hasS h v=true):Vd h v:=⟨by simp only[hasS,Aj]at hs;exact hs.1,fun hk=>zM0 hs hk⟩
theorem ef_put{h:List Ob}(g:Uh h)(hh:HpIn h)(hp:(qE h).1=0){d k w:Vl}(hk:(zT h d).kind=3)(hv:Vd h k)(gk:Gv h k)(gw:Gv h w):Ef h (putH h d k w) (putR h d k w):=by
 have hc:=vJ0 g hh;have hq:=jD0 hp;have hhl:=hh.len;have hx:=pN0 g hh (v:=d) om;have hlx:=uO g d;unfold putH putR;by_cases c1:¬(keyR h k).k=0
 ·rw[Ab c1,Ab c1];exact⟨rfl,(gX0 g hv h.length).i,gA hc hhl (gX0 g hv _) om⟩
 rw[Aa c1,Aa c1];by_cases c2:0<=plI h (zT h d).keys k
 ·rw[Ab c2,Ab c2];have hI:∀x∈(zT h d).items.set (plI h (zT h d).keys k).toNat w,Gv h x:=fun x hx'=>by
   rcases Dy hx' with h1|rfl
   ·exact hx.2 x h1
   ·exact gw
  have e1:=qS0 hx.1;have e2:=qS0 hI;rw[Bu]at e2;obtain⟨s1,s2⟩:=wL1 hc (v:=d) om (K:=(zT h d).keys) (I:=(zT h d).items.set (plI h (zT h d).keys k).toNat w) (fun x hx'=>(hx.1 x hx').2) (fun x hx'=>(hI x hx').2) om (by rw[Bu];omega);exact⟨Bu,(mO h.length).i,gA s1 (by rw[Bu];exact hhl) (mO _) (At s2 om)⟩
 rw[Aa c2,Aa c2];by_cases c3:((zT h d).keys.length:Int)=1000
 ·rw[Ab c3,Ab c3];exact⟨rfl,(cC0 h.length).i,gA hc hhl (cC0 _) om⟩
 rw[Aa c3,Aa c3];have hK:∀x∈(zT h d).keys++[k],Gv h x:=fun x hx'=>(Av.1 hx').elim (hx.1 x) fun h1=>by rw[Cc.1 h1];exact gk
 have hI:∀x∈(zT h d).items++[w],Gv h x:=fun x hx'=>(Av.1 hx').elim (hx.2 x) fun h1=>by rw[Cc.1 h1];exact gw
 have e1:=qS0 hK;have e2:=qS0 hI;rw[Ae,Co]at e1 e2;obtain⟨s1,s2⟩:=wL1 hc (v:=d) om (K:=(zT h d).keys++[k]) (I:=(zT h d).items++[w]) (fun x hx'=>(hK x hx').2) (fun x hx'=>(hI x hx').2) (by rw[Ae,Co];omega) (by rw[Ae,Co];omega);exact⟨Bu,(mO h.length).i,gA s1 (by rw[Bu];exact hhl) (mO _) (At s2 om)⟩
variable{md me:Bool}
def Gc(h:List Ob)(v:Vl):Prop:=VlC h.length v/\cV v<=43000
theorem gc_0(h:List Ob):Gc h vl0:=⟨mN _,by show 60<=43000;omega⟩
theorem uE0{h:List Ob}{v:Vl}(hv:Gv h v):Gc h v:=⟨hv.2,by
 have h1:=mF0 hv.1;have h2:=(jB0 hv.1).2.2;omega⟩
theorem dD0{h:List Ob}(g:Uh h)(hh:HpIn h){n:Int}(hn:inH h n):∀x∈(yJ h n).items,Gc h x:=fun x hx=>by
 have hC:=tL0 g hh (i:=n.toNat) hn.2;rw[<-wE hn]at hC;refine⟨hC.items x hx,?_⟩;by_cases h49:n.toNat<49
 ·rw[show yJ h n=bgO n.toNat from g.lo_at h49]at hx
  cases hx
 ·have u:=g.hi_at om hn.2;rw[<-wE hn]at u;have hok:=(tH u.vals).ok x (Av.2 (.inr hx));have e:=yA1 (yJ h n) x;have h1:=mF0 hok;have h2:=(jB0 hok).2.2;rw[e.1,e.2]at h1;rw[e.2]at h2;omega
theorem kD0{h:List Ob}{l:List Vl}(hl:∀x∈l,Gc h x)(k:Nat):Gc h (l.getD k vl0):=by
 rw[Af]
 cases hq:l[k]? with
 |none=>exact gc_0 h
 |some v=>exact hl v (Bg hq)
theorem vG1{h:List Ob}(g:Uh h)(hh:HpIn h)(v:Vl):∀x∈(zT h v).items,Gc h x:=fun x hx=>by
 by_cases hk:v.k=6/\qA h v.r=true
 ·rw[show zT h v=yJ h v.r from Ab hk]at hx;exact dD0 g hh (yW hk.2) x hx
 ·rw[show zT h v=ob0 from Aa hk]at hx
  cases hx
theorem gc_own{h:List Ob}{o:Ob}(hl:∀x∈o.items,Gc h x)(s:ByteArray):Gc h (ownV o s):=by
 unfold ownV;split
 ·exact gc_0 h
 ·exact kD0 hl _
theorem gc_fd{h:List Ob}(g:Uh h)(hh:HpIn h){L:List Int}(hL:∀r∈L,inH h r)(s:ByteArray):Gc h (fdV h s (fdO h L s)):=by
 cases hf:fdO h L s with
 |none=>exact gc_0 h
 |some r=>exact gc_own (dD0 g hh (hL r (List.mem_of_find?_eq_some hf))) s
theorem gc_rf{h:List Ob}{n:Int}(hn:inH h n)(hl:h.length<=5000000):Gc h (rfV n):=by
 obtain⟨m,rfl⟩:∃m:Nat,n=(m:Nat):=⟨n.toNat,by have:=hn.1;omega⟩;have h2:m<h.length:=by have:=hn.2;simpa using this
 exact⟨⟨⟨(by decide:(-9223372036854775808:Int)<=6),(by decide:(6:Int)<=9223372036854775807),(by show-9223372036854775808<=(m:Int);omega),(by show(m:Int)<=9223372036854775807;omega),(fun _ h=>by cases h),(fun _ h=>by cases h),(by decide:0<=2000000),(by decide:0<=2000000),(by decide:ByteArray.empty.size<=2000000)⟩,fun _=>by show(m:Int)<h.length;omega⟩,by show 60<=43000;omega⟩
theorem gc_sp{h:List Ob}(g:Uh h)(hh:HpIn h){v:Vl}(hv:Gc h v)(s:ByteArray):Gc h (spS h v s).1/\(∀x∈(spS h v s).2.1,Gc h x)/\(spS h v s).2.1.length<=1:=by
 have hn:∀x∈([]:List Vl),Gc h x:=fun _ hx=>by cases hx
 unfold spS;split
 ·exact⟨gc_0 h,hn,Aq _⟩
 ·rename_i hk;have hin:=uA0 g (v:=v) (Classical.not_not.1 hk);have hf:=gc_fd g hh (L:=(yJ h (zT h v).cls).order) (fun r hr=>((dR0 hh g hin).2 r hr).1) s;split
  ·exact⟨gc_0 h,hn,Aq _⟩
  ·split
   ·exact⟨hf,fun x hx=>by rw[Cc.1 hx];exact hv,Ar _⟩
   ·split
    ·exact⟨kD0 (vG1 g hh _) 0,hn,Aq _⟩
    ·split
     ·exact⟨kD0 (vG1 g hh _) 0,fun x hx=>by rw[Cc.1 hx];exact gc_rf hin (by have:=g.hi;omega),Ar _⟩
     ·exact⟨hf,hn,Aq _⟩
theorem cVs_gc{h:List Ob}{l:List Vl}(hl:∀x∈l,Gc h x):cVs l<=43000*l.length+1:=by
 induction l with
 |nil=>exact Ar _
 |cons v l ih=>
  have h1:=(hl v Bc).2;have h2:=ih fun x hx=>hl x (Be _ hx);unfold cVs at h2⊢;rw[Bw,Cn,Am,Nat.mul_succ];omega
theorem st_cac{h:List Ob}{f:Vl}{l:List Vl}(hf:Gc h f)(hl:∀x∈l,Gc h x)(h9:l.length<=1000):StC h.length (caS f l):=by
 have hc:=cVs_gc hl;exact⟨⟨(by decide:(-9223372036854775808:Int)<=2),(by decide:(2:Int)<=9223372036854775807),(by decide:(-9223372036854775808:Int)<=0),(by decide:(0:Int)<=9223372036854775807),(by show l.length<=1000000;omega)⟩,(by show ByteArray.empty.size<=2000000;decide),mN _,hf.1,fun x hx=>(hl x hx).1,by
  show cVs l<=300000000;have:43000*l.length<=43000*1000:=Cv _ h9;omega⟩
section
variable{h:List Ob}(g:Uh h)(hh:HpIn h)(hp:(qE h).1=0)
include g hh hp
end
theorem tx_C{N:Nat}{s:ByteArray}(hs:s.size<=2000000):VlC N (txV s):=⟨⟨(by decide:(-9223372036854775808:Int)<=4),(by decide:(4:Int)<=9223372036854775807),(by decide:(-9223372036854775808:Int)<=0),(by decide:(0:Int)<=9223372036854775807),(fun _ h=>by cases h),(fun _ h=>by cases h),(by decide:0<=2000000),(by decide:0<=2000000),hs⟩,fun hk=>absurd hk (by show ¬(4:Int)=6;decide)⟩
section
variable{h:List Ob}(g:Uh h)(hh:HpIn h)(hp:(qE h).1=0)
include g hh hp
end
variable{md me:Bool}
variable{md me:Bool}
theorem vok_int{v:Vl}(hv:qH v=true)(hk:v.k=2):uH v.nn v.nl=true:=by
 unfold qH at hv;rw[Aa om,Aa om,Ab hk,Aj,Aj,Aj]at hv;exact hv.1.1.1
theorem fix_5{o:Ob}{v:Vl}(hk:o.kind=5):fixV o v=v:=by
 unfold fixV;split
 ·rename_i h;simp[hk]at h
 ·rfl
theorem rg_of{h:List Ob}(hh:HpIn h)(g:Uh h){n:Int}(hn:qA h n=true)(hk:(yJ h n).kind=5):RgO (yJ h n):=by
 have hin:=yW hn;have hlt:n.toNat<h.length:=by have:=hin;unfold inH at this;omega
 have h49:49<=n.toNat:=by
  rcases Br n.toNat 49 with h1|h1
  ·have e:=g.lo_at h1;have e2:yJ h n=bgO n.toNat:=e;rw[e2]at hk;exact absurd hk (by show ¬(9:Int)=5;decide)
  ·exact h1
 have hu:=g.hi_at h49 hlt;have e3:yJ h (n.toNat:Nat)=yJ h n:=rfl;rw[e3]at hu;have hO:=hh.at n;have hV:=tH hu.vals;have hS:=(gN0 hu.shape).1;rw[cnt5 hk]at hS;have hl:(yJ h n).items.length=3:=by omega
 have hr:=hu.links;unfold jN at hr;rw[Ab hk]at hr;unfold rngS at hr;rw[Aj,Ap,Bl]at hr;have hit:∀j<3,(yJ h n).items.getD j vl0∈(yJ h n).items:=fun j hj=>by
  rw[Af,Ac om];exact Cj _
 have hrp:∀j<3,((yJ h n).items.getD j vl0).k=2/\((yJ h n).items.getD j vl0).nl.length<=40:=fun j hj=>by
  have:=hr.1 _ (hit j hj);unfold rngP at this;rw[Aj,Ap,Ap]at this;exact this
 have hok:∀j<3,uH ((yJ h n).items.getD j vl0).nn ((yJ h n).items.getD j vl0).nl=true:=fun j hj=>by
  have:=hV.ok _ (List.mem_append_right _ (hit j hj));rw[fix_5 hk]at this;exact vok_int this (hrp j hj).1
 have hlg:∀j<3,Lg ((yJ h n).items.getD j vl0).nl:=fun j hj=>(hO.iv _ (hit j hj)).nl;refine⟨by omega,hO.il,fun j hj=>(hrp j hj).2,hlg,hok,?_⟩;rcases Bz (VL ((yJ h n).items.getD 2 vl0).nl)with h0|h0
 ·have e:=(pR (hlg 2 de) (hok 2 de)).1;rw[h0,qI]at e;rw[e]at hr;exact absurd hr.2 de
 ·exact h0
theorem Sx.enc_sz(r:Int):(Utf8.encode r).size<=4:=by
 unfold Utf8.encode;simp only[];repeat' split
 all_goals first|exact(show 1<=4 by decide)|exact(show 2<=4 by decide)|exact(show 3<=4 by decide)|exact(show 4<=4 by decide)
theorem Sx.st_dn{N:Nat}:StC N dnS:=
 ⟨⟨(by decide:(-9223372036854775808:Int)<=3),(by decide:(3:Int)<=9223372036854775807),(by decide:(-9223372036854775808:Int)<=0),(by decide:(0:Int)<=9223372036854775807),Aq _⟩,(by decide:ByteArray.empty.size<=2000000),mN _,mN _,(fun _ h=>by cases h),(by show cVs []<=300000000;decide)⟩
theorem Sx.nu_C{N:Nat}{n:Int}(h:(lim n.natAbs).length<=1000):VlC N (nuV n):=
 ⟨⟨(by decide:(-9223372036854775808:Int)<=2),(by decide:(2:Int)<=9223372036854775807),(by decide:(-9223372036854775808:Int)<=0),(by decide:(0:Int)<=9223372036854775807),yV _,(fun _ h=>by cases h),by show(lim n.natAbs).length<=2000000;omega,(by decide:0<=2000000),(by decide:ByteArray.empty.size<=2000000)⟩,fun hk=>absurd hk (by show ¬(2:Int)=6;decide)⟩
theorem Sx.at_st{N:Nat}{l:List Vl}{i:Int}(hl:∀x∈l,VlC N x):StC N (atS l i):=by
 unfold atS;split
 ·refine cB0 ?_;rw[Af]
  cases hq:l[i.toNat]? with
  |none=>exact mN _
  |some v=>exact hl v (Bg hq)
 ·exact Sx.st_dn
theorem Sx.ob_vlc{H:List Ob}(g:Uh H)(hh:HpIn H)(c:Vl):(∀x∈(zT H c).keys,VlC H.length x)/\∀x∈(zT H c).items,VlC H.length x:=by
 by_cases hk:(zT H c).kind=0
 ·by_cases h6:c.k=6/\qA H c.r=true
  ·have e:zT H c=yJ H c.r:=Ab h6;have h7:=h6.2;simp only[qA,Aj,Bq,Ay]at h7;rw[e]at hk;exact absurd hk h7.2
  ·have e:zT H c=ob0:=Aa h6;rw[e];exact⟨(fun _ hx=>by cases hx),(fun _ hx=>by cases hx)⟩
 ·have oc:=(gT1 (vJ0 g hh) hk).1;exact⟨oc.keys,oc.items⟩
theorem Sx.elm_st{H:List Ob}(g:Uh H)(hh:HpIn H){c z:Vl}{i:Int}:StC H.length (elmS H c z i):=by
 obtain⟨k1,k2⟩:=Sx.ob_vlc g hh c;unfold elmS;repeat' split
 ·exact cB0 (tx_C (At (Sx.enc_sz _) de))
 ·exact Sx.st_dn
 ·exact cB0 (jM1 om (by have:=xQ0 c.s i.toNat;omega))
 ·exact Sx.st_dn
 ·exact Sx.at_st k1
 ·exact gG0 de de de
 ·exact Sx.at_st k2
theorem Sx.po_st{N:Nat}{v:Vl}{n:Int}:StC N (poS v n):=by
 unfold poS;split
 ·exact gG0 de de de
 ·split
  ·exact mO N
  ·exact gG0 de de de
theorem Sx.no_st{h:List Ob}(g:Uh h){v:Vl}(hv:Vd h v){s:ByteArray}(hs:s.size<=1000)(N:Nat):StC N (sbN h v s):=by
 have:=gY1 g (qQ0 g (yV0 g (mE hv)));refine gG0 de de ?_;rw[Da,Da];have e1:sbQ.size=1:=rfl;omega
theorem Sx.mi_st{h:List Ob}{k:Vl}(hk:Gc h k):StC h.length (miS k):=⟨⟨(by decide:(-9223372036854775808:Int)<=1),(by decide:(1:Int)<=9223372036854775807),(by decide:(-9223372036854775808:Int)<=39),(by decide:(39:Int)<=9223372036854775807),(by show 1<=1000000;decide)⟩,(by decide:ByteArray.empty.size<=2000000),mN _,mN _,(fun x hx=>by rw[Cc.1 hx];exact hk.1),(by show cVs [k]<=300000000;have:=hk.2;simp only[cVs,Bw,List.map_nil,Cn,List.sum_nil];omega)⟩
theorem Sx.lo_st{h:List Ob}(g:Uh h)(hh:HpIn h){v x:Vl}(hx:Vd h x)(gx:Gc h x):StC h.length (sbL h v x):=by
 unfold sbL;split
 ·exact gX0 g hx _
 ·split
  ·exact Sx.mi_st gx
  ·refine cB0 ?_;rw[Af]
   cases hq:(zT h v).items[(plI h (zT h v).keys x).toNat]? with
   |none=>exact mN _
   |some y=>exact(Sx.ob_vlc g hh v).2 y (Bg hq)
theorem Sx.rg_st{N:Nat}{o:Ob}{x:Vl}(ho:RgO o):StC N (sbR o x):=by
 unfold sbR;split
 ·exact gG0 de de de
 ·split
  ·rename_i h2;obtain⟨j0,j1⟩:=pxB_iff.1 h2;refine cB0 (Sx.nu_C ?_);have:=(jS1 ho.siz.1 ho.siz.2.1 ho.siz.2.2.2 j0 j1).1;exact At this de
  ·exact gG0 de de de
theorem Sx.sb_st{h:List Ob}(g:Uh h)(hh:HpIn h){v x:Vl}(hv:Vd h v)(hx:Vd h x)(gx:Gc h x)(hr:(zT h v).kind=5->RgO (zT h v)):StC h.length (sbS h v x):=by
 unfold sbS;split
 ·exact Sx.lo_st g hh hx gx
 ·rename_i h3;split
  ·rename_i h5;exact Sx.rg_st (hr h5)
  ·split
   ·rename_i h5 hq;by_cases h1:(poS x (elS h v).length).k=1
    ·rw[jH1 h1];exact Sx.po_st
    ·have k0:(v.k=4\/v.k=5)->(zT h v).kind=0:=pM0;rw[jI1 om h1];exact Sx.elm_st g hh
   ·exact Sx.no_st g hv de _
structure Sx.Pf(h h':List Ob)(l:List St)(s:St):Prop where
 len:h'.length=h.length
 ll:l.length<=1000
 st:∀t∈s::l,StI t
 sk:Skc h' (pvS (s::l))
theorem Sx.pf_nil{h h':List Ob}{s:St}(e:Ef h h' s):Sx.Pf h h' [] s:=⟨e.len,by decide,fun t ht=>by rw[Cc.1 ht];exact e.st,e.sk⟩
theorem Sx.cVs_app(a b:List Vl):cVs (a++b)<=cVs a+cVs b:=by
 unfold cVs;rw[Ad,Es];omega
theorem Sx.pf_one{h:List Ob}(hc:HpC h)(hn:h.length<=2000000)(hq:cH h<=80000000){s t:St}(hs:StC h.length s)(ht:StC h.length t)(lt:t.l.length<=900000):Sx.Pf h h [t] s:=by
 obtain⟨a1,_,a3⟩:=vZ1 hs;obtain⟨b1,_,b3⟩:=vZ1 ht;have e:pvS [s,t]=spW s++spW t:=by simp[pvS]
 have la:=cQ hs.i;have lb:=cQ ht.i;have c:=Sx.cVs_app (spW s) (spW t);refine⟨rfl,by show 1<=1000;decide,fun u hu=>?_,⟨hc,hn,?_,?_,?_⟩⟩
 ·rcases Bi.1 hu with rfl|hu
  ·exact hs.i
  ·rw[Cc.1 hu];exact ht.i
 ·rw[e];intro x hx;rcases Av.1 hx with hx|hx
  ·exact a1 x hx
  ·exact b1 x hx
 ·rw[e,Ae];have l1:(spW t).length=t.l.length+6:=rfl;omega
 ·rw[e];omega
theorem Sx.pf_at{h:List Ob}(g:Uh h)(hh:HpIn h)(hp:(qE h).1=0){v:Vl}(gv:Gc h v){nm:ByteArray}{L:List Vl}(hL:∀x∈L,Gc h x)(lL:L.length<=900){s:St}(hs:StC h.length s):Sx.Pf h h (jX h v nm L) s:=by
 have hc:=vJ0 g hh;have hq:=jD0 hp;unfold jX;split
 ·obtain⟨a,b,c⟩:=gc_sp g hh gv nm;exact Sx.pf_one hc hh.len hq hs (st_cac a (fun x hx=>by
   rcases Av.1 hx with hx|hx
   ·exact b x hx
   ·exact hL x hx) (by rw[Ae];omega)) (by show((spS h v nm).2.1++L).length<=900000;rw[Ae];omega)
 ·exact Sx.pf_nil ⟨rfl,hs.i,gA hc hh.len hs om⟩
theorem Sx.era_mem{l:List Vl}{i:Nat}{x:Vl}(hx:x∈eraL l i):x∈l:=by
 rcases Av.1 hx with hx|hx
 ·exact Cu hx
 ·exact Dj hx
theorem Sx.ef_obj{h:List Ob}(g:Uh h)(hh:HpIn h)(hp:(qE h).1=0){v:Vl}(hk:(zT h v).kind=2\/(zT h v).kind=3){K I:List Vl}(hK:∀x∈K,Gv h x)(hI:∀x∈I,Gv h x)(lK:K.length<=2000)(lI:I.length<=2000){s:St}(hs:StC h.length s):Ef h (h.set v.r.toNat {zT h v with keys:=K,items:=I}) s:=by
 have hc:=vJ0 g hh;have hq:=jD0 hp;have hhl:=hh.len;have e1:=qS0 hK;have e2:=qS0 hI;obtain⟨s1,s2⟩:=wL1 hc (v:=v) om (K:=K) (I:=I) (fun x hx'=>(hK x hx').2) (fun x hx'=>(hI x hx').2) om om;exact⟨Bu,hs.i,gA s1 (by rw[Bu];exact hhl) (by rw[Bu];exact hs) (At s2 om)⟩
theorem Sx.ef_same{h:List Ob}(g:Uh h)(hh:HpIn h)(hp:(qE h).1=0){s:St}(hs:StC h.length s):Ef h h s:=⟨rfl,hs.i,gA (vJ0 g hh) hh.len hs (by have:=jD0 hp;omega)⟩
theorem Sx.pf_set{h:List Ob}(g:Uh h)(hh:HpIn h)(hp:(qE h).1=0){v x w:Vl}(hv:Vd h v)(hx:Vd h x)(gv:Gc h v)(gx:Gv h x)(gw:Gv h w):Sx.Pf h (seH h v x w) (jX h v gS [x,w]) (seS h v x w):=by
 by_cases h2:(zT h v).kind=2
 ·have hx2:=pN0 g hh (v:=v) om;have hl:=uO g v;rw[vX om];rw[show seS h v x w=_ from Ab h2,show seH h v x w=_ from Ab h2];refine Sx.pf_nil ?_;split
  ·exact Sx.ef_same g hh hp Sx.po_st
  ·refine Sx.ef_obj g hh hp (.inl h2) (K:=(zT h v).keys) hx2.1 (fun y hy=>?_) om (by rw[Bu];omega) Sx.po_st;rcases Dy hy with h1|rfl
   ·exact hx2.2 y h1
   ·exact gw
 ·by_cases h3:(zT h v).kind=3
  ·rw[vX om,show seS h v x w=_ from(Aa h2).trans (Ab h3),show seH h v x w=_ from(Aa h2).trans (Ab h3)];exact Sx.pf_nil (ef_put g hh hp h3 hx gx gw)
  ·rw[show seS h v x w=_ from(Aa h2).trans (Aa h3),show seH h v x w=_ from(Aa h2).trans (Aa h3)];exact Sx.pf_at g hh hp gv (fun y hy=>by
    rcases Bi.1 hy with rfl|hy
    ·exact uE0 gx
    ·rw[Cc.1 hy];exact uE0 gw) (by show 2<=900;decide) (Sx.no_st g hv de _)
theorem Sx.pf_del{h:List Ob}(g:Uh h)(hh:HpIn h)(hp:(qE h).1=0){v x:Vl}(hv:Vd h v)(hx:Vd h x)(gv:Gc h v)(gx:Gv h x):Sx.Pf h (deH h v x) (jX h v wV [x]) (deS h v x):=by
 by_cases h2:(zT h v).kind=2
 ·have hx2:=pN0 g hh (v:=v) om;have hl:=uO g v;rw[vX om];rw[show deS h v x=_ from Ab h2,show deH h v x=_ from Ab h2];refine Sx.pf_nil ?_;split
  ·exact Sx.ef_same g hh hp Sx.po_st
  ·exact Sx.ef_obj g hh hp (.inl h2) (K:=(zT h v).keys) hx2.1 (fun y hy=>hx2.2 y (Sx.era_mem hy)) om (by have:=bH (zT h v).items (poQ x (zT h v).items.length).toNat;omega) Sx.po_st
 ·by_cases h3:(zT h v).kind=3
  ·have hx2:=pN0 g hh (v:=v) om;have hl:=uO g v;rw[vX om,show deS h v x=_ from(Aa h2).trans (Ab h3),show deH h v x=_ from(Aa h2).trans (Ab h3)];refine Sx.pf_nil ?_;split
   ·exact Sx.ef_same g hh hp (Sx.lo_st g hh hx (uE0 gx))
   ·exact Sx.ef_obj g hh hp (.inr h3) (fun y hy=>hx2.1 y (Sx.era_mem hy)) (fun y hy=>hx2.2 y (Sx.era_mem hy)) (by have:=bH (zT h v).keys (plI h (zT h v).keys x).toNat;omega) (by have:=bH (zT h v).items (plI h (zT h v).keys x).toNat;omega) (mO _)
  ·rw[show deS h v x=_ from(Aa h2).trans (Aa h3),show deH h v x=_ from(Aa h2).trans (Aa h3)];exact Sx.pf_at g hh hp gv (fun y hy=>by rw[Cc.1 hy];exact uE0 gx) (by show 1<=900;decide) (Sx.no_st g hv de _)
theorem Sx.rg_in{h:List Ob}(g:Uh h)(hh:HpIn h){v:Vl}(h5:(zT h v).kind=5):RgO (zT h v):=by
 obtain⟨_,ho,e5⟩:=jR (h:=h) (v:=v) om;rw[e5]at h5⊢;exact rg_of hh g ho h5
variable{md me:Bool}
set_option maxHeartbeats 4000000 in
theorem Law44_ok(h:List Ob)(v x w:Vl)(hh:HpIn h)(hiv:VlIn v)(hix:VlIn x)(hiw:VlIn w):Fx 3 [hpD md h,.agg (vlD v),.agg (vlD x),.agg (vlD w)] (.v (.bool true)):=by
 have hhl:=hh.len;refine yD zJ Tryz.func3 rfl rfl rfl rfl rfl rfl ?_;intro w0 s0 mx;refine zK 100 ?_;refine zB ?_;refine zB (zE zJ [] 200 rfl ?_);refine zF ?_;refine zQ _ ((Usable_ok h [v,x,w] hh (fun u hu=>by simp only[Bi,List.not_mem_nil,or_false]at hu;rcases hu with rfl|rfl|rfl<;>assumption) (by show 3<=2000000;decide)).args ⟨u6 _,u18 rfl,trivial⟩) rfl ?_
 refine zF ?_;refine zC (zA (zU rfl (fun c1=>?_) (fun c1=>?_)))
 ·
  refine zK 300 ?_;refine zL (zO ?_);exact u4 rfl (u6 _)
 ·have hu:dJ h [v,x,w]=true:=by simpa using c1
  have hq:(qE h).1=0/\hasS h v=true/\hasS h x=true/\hasS h w=true:=by
   simp only[dJ,Aj,Ap,List.all_cons,List.all_nil,Bool.and_true]at hu;exact hu
  have g:Uh h:=vX1 hq.1;have hvv:=kH1 hq.2.1;have hxx:=kH1 hq.2.2.1;have gv:=zU1 hiv hq.2.1;have gx:=zU1 hix hq.2.2.1;have gw:=zU1 hiw hq.2.2.2;have hr:=fun h5:(zT h v).kind=5=>Sx.rg_in g hh h5;have p1:=Sx.pf_at g hh hq.1 (uE0 gv) (nm:=uG) (L:=[x]) (fun y hy=>by rw[Cc.1 hy];exact uE0 gx) (by show 1<=900;decide) (Sx.sb_st g hh hvv hxx (uE0 gx) hr);have p2:=Sx.pf_set g hh hq.1 hvv hxx (uE0 gv) gx gw;have p3:=Sx.pf_del g hh hq.1 hvv hxx (uE0 gv) gx;have a1:=opItem_G h v x hh g hvv hxx hiv hix hr;have b1:=vW0 h v x hh g hvv hxx hiv hix hr;have a2:=opSetItem_G h v x w hh g hvv hxx hiv hix hr;have b2:=refSetItem_G h v x w hh g hvv hxx hiv hix hr;have a3:=opDelItem_G h v x hh g hvv hxx hiv hix hr;have b3:=refDelItem_G h v x hh g hvv hxx hiv hix hr;obtain⟨L1,e1⟩:∃L,L=jX h v uG [x]:=⟨_,rfl⟩;obtain⟨R1,f1⟩:∃R,R=sbS h v x:=⟨_,rfl⟩;rw[<-e1,<-f1]at p1 a1 b1;obtain⟨L2,e2⟩:∃L,L=jX h v gS [x,w]:=⟨_,rfl⟩;obtain⟨R2,f2⟩:∃R,R=seS h v x w:=⟨_,rfl⟩;obtain⟨H2,g2⟩:∃H,H=seH h v x w:=⟨_,rfl⟩;rw[<-e2,<-f2,<-g2]at p2 a2 b2;obtain⟨L3,e3⟩:∃L,L=jX h v wV [x]:=⟨_,rfl⟩;obtain⟨R3,f3⟩:∃R,R=deS h v x:=⟨_,rfl⟩;obtain⟨H3,g3⟩:∃H,H=deH h v x:=⟨_,rfl⟩;rw[<-e3,<-f3,<-g3]at p3 a3 b3;clear e1 f1 e2 f2 g2 e3 f3 g3;refine zM (zA ?_);refine zB (zX zJ [1025,1027] [[],[0],[],[0,1,2],[],[],(rgN 6),(rgN 7)] 400 yP kr rfl ?_);refine zF ?_;refine yO _ _ (qX0 h hh) rfl ?_;refine zF ?_;refine yO _ _ (qX0 h hh) rfl ?_;refine zf (zA (zB ?_));refine yL [4,5,6,7,9,10] [0,1,2,3,201,203,204,205] 410 [] [(201,.mrow 50 10 (.map h obD ob0)),(203,.mrow 50 10 (.map h obD ob0)),(204,.box 24 [.mo 201 h.length]),(205,.box 24 [.mo 203 h.length])] ?_;refine⟨⟨yG,⟨SubO.mp rfl,SubO.mp rfl,⟨rfl,SubL.same rfl⟩,⟨rfl,SubL.same rfl⟩,yF⟩,rfl,rfl⟩,?_⟩;refine zB (zX zJ [1030,1033] mK7 500 yP kr rfl ?_);refine zF ?_;refine yO _ _ (a1) (yA0 _ _ _) ?_;refine zF ?_;refine yO _ _ (b1) (yA0 _ _ _) ?_;refine zf (zA ?_);refine yL [4,5,6,7,9,10,11,12] [0,1,2,3,201,203,204,205,416,417] 510 [] [(201,.mrow 50 10 (.map h obD ob0)),(203,.mrow 50 10 (.map h obD ob0)),(204,.box 24 [.mo 201 h.length]),(205,.box 24 [.mo 203 h.length]),(416,.box 37 (stsD L1::stD R1)),(417,.box 37 (stsD L1::stD R1))] ?_;refine⟨⟨yG,⟨SubO.mp rfl,SubO.mp rfl,⟨rfl,Sub.mo rfl,rfl,trivial⟩,⟨rfl,Sub.mo rfl,rfl,trivial⟩,⟨rfl,SubL.same rfl⟩,⟨rfl,SubL.same rfl⟩,yF⟩,rfl,rfl⟩,?_⟩;refine zB (zE zJ [] 600 rfl ?_);refine zF ?_;refine yZ _ (((gO h h L1 R1 h L1 R1 hhl p1.ll p1.ll p1.st p1.st p1.sk p1.sk).out (u7 (dR (by rw[p1.len];exact Ar _))))) rfl rfl ?_;refine zF ?_;refine zC (zA (zZ (fun c5=>?_) (fun c5=>?_)))
  ·
   first|exact absurd c5 (by decide)|(simp at c5)
  ·
   refine zM (zA ?_);refine zB (zX zJ [1042,1044] mK10 800 yP kr rfl ?_);refine zF ?_;refine yO _ _ (qX0 h hh) rfl ?_;refine zF ?_;refine yO _ _ (qX0 h hh) rfl ?_;refine zf (zA (zB ?_));refine yL [4,5,6,7,9,10] [0,1,2,3,204,205,601,603] 810 [] [(601,.mrow 50 10 (.map h obD ob0)),(603,.mrow 50 10 (.map h obD ob0)),(204,.box 24 [.mo 601 h.length]),(205,.box 24 [.mo 603 h.length])] ?_;refine⟨⟨yG,⟨SubO.mp rfl,SubO.mp rfl,⟨rfl,SubL.same rfl⟩,⟨rfl,SubL.same rfl⟩,yF⟩,rfl,rfl⟩,?_⟩;refine zB (zX zJ [1048,1052] [[],[],[],[0,1,2],[],[],[],(rgN 7),[],[],(rgN 10),(rgN 11)] 900 yP kr rfl ?_);refine zF ?_;refine yO _ _ (a2) (yA0 _ _ _) ?_;refine zF ?_;refine yO _ _ (b2) (yA0 _ _ _) ?_;refine zf (zA ?_);refine yL [4,5,6,9,10,13,14] [0,1,2,204,205,601,603,818,819] 910 [] [(601,.mrow 50 10 (.map H2 obD ob0)),(603,.mrow 50 10 (.map H2 obD ob0)),(204,.box 24 [.mo 601 H2.length]),(205,.box 24 [.mo 603 H2.length]),(818,.box 37 (stsD L2::stD R2)),(819,.box 37 (stsD L2::stD R2))] ?_;refine⟨⟨yG,⟨SubO.mp rfl,SubO.mp rfl,⟨rfl,Sub.mo rfl,rfl,trivial⟩,⟨rfl,Sub.mo rfl,rfl,trivial⟩,⟨rfl,SubL.same rfl⟩,⟨rfl,SubL.same rfl⟩,yF⟩,rfl,rfl⟩,?_⟩;refine zB (zE zJ [] 1000 rfl ?_);refine zF ?_;refine yZ _ (((gO h H2 L2 R2 H2 L2 R2 hhl p2.ll p2.ll p2.st p2.st p2.sk p2.sk).out (u7 (dR (by rw[p2.len];exact Ar _))))) rfl rfl ?_;refine zF ?_;refine zC (zA (zZ (fun c9=>?_) (fun c9=>?_)))
   ·
    first|exact absurd c9 (by decide)|(simp at c9)
   ·
    refine zM (zA ?_);refine zB (zX zJ [1061,1063] mK10 1200 yP kr rfl ?_);refine zF ?_;refine yO _ _ (qX0 h hh) rfl ?_;refine zF ?_;refine yO _ _ (qX0 h hh) rfl ?_;refine zf (zA ?_);refine yL [4,5,6,9,10] [0,1,2,204,205,1001,1003] 1210 [] [(1001,.mrow 50 10 (.map h obD ob0)),(1003,.mrow 50 10 (.map h obD ob0)),(204,.box 24 [.mo 1001 h.length]),(205,.box 24 [.mo 1003 h.length])] ?_;refine⟨⟨yG,⟨SubO.mp rfl,SubO.mp rfl,⟨rfl,SubL.same rfl⟩,⟨rfl,SubL.same rfl⟩,yF⟩,rfl,rfl⟩,?_⟩;refine zB (zX zJ [1066,1069] mK7 1300 yP kr rfl ?_);refine zF ?_;refine yO _ _ (a3) (yA0 _ _ _) ?_;refine zF ?_;refine yO _ _ (b3) (yA0 _ _ _) ?_;refine zf (zA ?_);refine yL [4,9,10,15,16] [0,204,205,1001,1003,1216,1217] 1310 [] [(1001,.mrow 50 10 (.map H3 obD ob0)),(1003,.mrow 50 10 (.map H3 obD ob0)),(204,.box 24 [.mo 1001 H3.length]),(205,.box 24 [.mo 1003 H3.length]),(1216,.box 37 (stsD L3::stD R3)),(1217,.box 37 (stsD L3::stD R3))] ?_;refine⟨⟨yG,⟨SubO.mp rfl,SubO.mp rfl,⟨rfl,Sub.mo rfl,rfl,trivial⟩,⟨rfl,Sub.mo rfl,rfl,trivial⟩,⟨rfl,SubL.same rfl⟩,⟨rfl,SubL.same rfl⟩,yF⟩,rfl,rfl⟩,?_⟩;refine zB (zE zJ [] 1400 rfl ?_);refine zF ?_;refine yZ _ (((gO h H3 L3 R3 H3 L3 R3 hhl p3.ll p3.ll p3.st p3.st p3.sk p3.sk).out (u7 (dR (by rw[p3.len];exact Ar _))))) rfl rfl ?_;refine zf (zA (zL ?_));exact u4 rfl (u6 _)
open Go.ChangeShapes Go.WideShapes Go.ChangeAt Go.RowKit Go.Deep
theorem bC0{H:Type}{d:DataW H}{l:List (DataW H)}(h:d∈l):Rows.uptoBulk d<=Rows.uptoBulkAll l:=by
 induction l with
 |nil=>cases h
 |cons x r ih=>
  simp only[Rows.uptoBulkAll]
  cases Bi.1 h with
  |inl e=>subst e;omega
  |inr e=>have:=ih e;omega
theorem bulk_one{H:Type}(d:DataW H):1<=Rows.uptoBulk d:=by
 cases d with
 |lit l=>cases l<;>simp[Rows.uptoBulk]
 |nil=>simp[Rows.uptoBulk]
 |ptr d=>simp[Rows.uptoBulk]
 |slice elems spare=>simp[Rows.uptoBulk]
 |agg parts=>simp[Rows.uptoBulk]
 |iface t d=>simp[Rows.uptoBulk]
 |map entries=>simp[Rows.uptoBulk]
 |held h=>simp[Rows.uptoBulk]
theorem bulk_length{H:Type}(l:List (DataW H)):l.length<=Rows.uptoBulkAll l:=by
 induction l with
 |nil=>simp[Rows.uptoBulkAll]
 |cons x r ih=>have:=bulk_one x;simp only[Rows.uptoBulkAll,Am];omega
theorem qO{H:Type}{l:List (DataW H×List MemPlace)}{i:Nat}{y:DataW H×List MemPlace}(h:l[i]?=some y){n:Nat}(hn:Rows.uptoBulk (DataW.agg (l.map (·.1)))<=n):Rows.uptoBulk y.1<=n:=by
 have h1:y.1∈l.map (·.1):=Dc.2 ⟨y,Bg h,rfl⟩;have h2:=bC0 h1;simp only[Rows.uptoBulk]at hn;omega
def sW(W:World):Sb:=⟨fun b _=>b<W.heap.size,fun b _=>b<W.heap.size,fun _ _ h=>h⟩
def I64(x:Int):Prop:= -9223372036854775808<=x/\x<=9223372036854775807
theorem i64_wf{x:Int}(h:(Lit.int .i64 x).wf=true):I64 x:=by
 simp[Lit.wf]at h;have h1:IntKind.i64.min= -9223372036854775808:=by decide
 have h2:IntKind.i64.max=9223372036854775807:=by decide
 unfold I64;omega
theorem u32_wf{x:Int}(h:(Lit.int .u32 x).wf=true):0<=x/\x<4294967296:=by
 simp[Lit.wf]at h;have h1:IntKind.u32.min=0:=by decide
 have h2:IntKind.u32.max=4294967295:=by decide
 omega
def Opn{H:Type}(enc:TypeId×Value->H)(P:Program)(W:World)(t:TypeId){α:Type}(f:α->List D)(Q:α->Nat->Prop):Prop:=
 ∀(fuel:Nat)(cs:List Value)(d:DataW H)(ps:List MemPlace),cs.length=P.cellsOf t->DataW.trod enc P W 0 (fun _=>true) true fuel t cs=some (d,ps)->
  ∃x,AllV W (sW W) (D.pvs (f x)) cs/\(∀c∈cs,c.oneCell'=true)/\∀n,Rows.uptoBulk d<=n->Q x n
section
variable{H:Type}{enc:TypeId×Value->H}{P:Program}{W:World}
theorem dZ{c:Value}(h:c.oneCell'=true):∀x∈[c],x.oneCell'=true:=fun x hx=>by rw[Cc]at hx;rw[hx];exact h
theorem Opn.int{t:TypeId}(ht:P.underlying t=some (.int .i64)):Opn enc P W t iD (fun x _=>I64 x):=by
 intro fuel cs d ps _ h;obtain⟨k,rfl,_,wf⟩:=DataW.trod_int ht h;exact⟨k,⟨rfl,trivial⟩,dZ rfl,fun _ _=>i64_wf wf⟩
theorem Opn.u32{t:TypeId}(ht:P.underlying t=some (.int .u32)):Opn enc P W t uD (fun x _=>x<4294967296):=by
 intro fuel cs d ps _ h;obtain⟨k,rfl,_,wf⟩:=DataW.trod_int ht h;have h1:=u32_wf wf;refine⟨k.toNat,⟨?_,trivial⟩,dZ rfl,fun _ _=>by omega⟩;show Value.int .u32 k= .int .u32 (k.toNat:Nat);rw[Int.toNat_of_nonneg h1.1]
theorem Opn.bool{t:TypeId}(ht:P.underlying t=some .bool):Opn enc P W t (fun b:Bool=>[.v (.bool b)]) (fun _ _=>True):=by
 intro fuel cs d ps _ h;obtain⟨k,rfl,_⟩:=DataW.trod_bool ht h;exact⟨k,⟨rfl,trivial⟩,dZ rfl,fun _ _=>trivial⟩
theorem Opn.str{t:TypeId}(ht:P.underlying t=some .string):Opn enc P W t sD (fun s n=>s.size<=n):=by
 intro fuel cs d ps _ h;obtain⟨k,rfl,hx,_⟩:=DataW.trod_string ht h;refine⟨k,⟨rfl,trivial⟩,dZ rfl,fun n hn=>?_⟩;simp only[Prod.mk.injEq]at hx;rw[hx.1]at hn;simp only[Rows.uptoBulk]at hn;have e:k.data.toList.length=k.size:=by rw[Ej];rfl
 omega
theorem Opn.sl{α:Type}{f:α->List D}{Q:α->Nat->Prop}{t e:TypeId}{sz:Nat}(e0:α)(ht:P.underlying t=some (.slice e))(hc:P.cellsOf e=sz)(hz:0<sz)(he:Opn enc P W e f Q):
  Opn enc P W t (fun l=>[.sl false sz l f e0]) (fun l n=>l.length<=n/\∀x∈l,Q x n):=by
 intro fuel cs d ps _ h;rcases open_slice ht h with⟨rfl,hx⟩|⟨a,len,cap,m,n,D',Pl,rfl,_,hl,hm,hmm,hx,hel⟩
 ·exact⟨[],⟨PV.sl_nil,trivial⟩,dZ rfl,fun _ _=>⟨Aq _,fun x hx=>by cases hx⟩⟩
 ·simp only[if_true]at hmm;subst hmm;have hq:∀i,i<len->∃x:α,∃cs',W.cells? 0 (a.add (i*sz)) sz=some cs'/\AllV W (sW W) (D.pvs (f x)) cs'/\(∀c∈cs',c.oneCell'=true)/\∀n,Rows.uptoBulk (D' i)<=n->Q x n:=fun i hi=>by
   obtain⟨cs',h1,h2⟩:=hel i om;rw[hc]at h1;obtain⟨_,hlen,_⟩:=World.cells?_some h1;obtain⟨x,hx1,hx2,hx3⟩:=he n cs' (D' i) (Pl i) om h2;exact⟨x,cs',h1,hx1,hx2,hx3⟩
  obtain⟨g,hg⟩:∃g:Nat->α,∀i,i<len->∃cs',W.cells? 0 (a.add (i*sz)) sz=some cs'/\AllV W (sW W) (D.pvs (f (g i))) cs'/\(∀c∈cs',c.oneCell'=true)/\∀n,Rows.uptoBulk (D' i)<=n->Q (g i) n:=
   ⟨fun i=>if h:i<len then Classical.choose (hq i h)else e0,fun i hi=>by simp only[dif_pos hi];exact Classical.choose_spec (hq i hi)⟩
  have hrl:(((List.range len).map g).map fun a=>D.pvs (f a)).length=len:=by simp
  refine⟨(List.range len).map g,⟨⟨some a,m,?_,?_,?_,?_,?_⟩,trivial⟩,dZ rfl,fun n hn=>?_⟩
  ·show Value.slice (some a) len m=Value.slice (some a) (((List.range len).map g).map fun a=>D.pvs (f a)).length m;rw[hrl]
  ·show(((List.range len).map g).map fun a=>D.pvs (f a)).length<=m;rw[hrl];exact hl
  ·have:maxLen=9223372036854775807:=by decide
   omega
  ·intro row hrow;have hrow:row∈((List.range len).map g).map fun a=>D.pvs (f a):=hrow;rw[Cw]at hrow;obtain⟨i,hi,rfl⟩:=Dc.1 hrow;obtain⟨cs',h1,h2,-⟩:=hg i (Ct.1 hi);have h3:=h2.length;obtain⟨_,h4,_⟩:=World.cells?_some h1;show(D.pvs (f (g i))).length=sz;omega
  ·intro i row hrow;have hrow:(((List.range len).map g).map fun a=>D.pvs (f a))[i]?=some row:=hrow;rw[Cw,Bx]at hrow;obtain⟨j,hj,rfl⟩:=Option.map_eq_some_iff.1 hrow;have hi:i<len:=by have:=(Ao.1 hj).1;simpa using this
   rw[Ew hi]at hj
   cases hj;obtain⟨cs',h1,h2,h3,-⟩:=hg i hi;obtain⟨_,h4,h5⟩:=World.cells?_some h1;obtain⟨b,off,spot⟩:=a
   cases spot with
   |some sp=>
    obtain⟨cs0,k1,-⟩:=hg 0 om;obtain⟨_,k4,k5⟩:=World.cells?_some k1;have h6:=k5 0 hz;rw[Ac om]at h6;have:=World.cell?_spot h6;simp[Addr.add]at this
   |none=>
    refine⟨b,off,rfl,fun j d hd=>?_⟩;obtain⟨v,hv,hp⟩:=h2.get hd;have hj:j<cs'.length:=(Ao.1 hv).1;have h6:=h5 j om;rw[hv]at h6;have h7:W.cell? ⟨b,off+i*sz+j,none⟩=some v:=by rw[add_plain,add_plain]at h6;exact h6
    exact⟨v,h7,(World.block_lt_of_cell? _ _ h7:b<W.heap.size),hp,h3 v (Bg hv)⟩
  ·simp only[Prod.mk.injEq]at hx;rw[hx.1]at hn;simp only[Rows.uptoBulk]at hn;have h1:=bulk_length ((List.range len).map D');simp only[An,Du]at h1;refine⟨by simp;omega,fun x hx=>?_⟩;obtain⟨i,hi,rfl⟩:=Dc.1 hx;obtain⟨cs',-,-,-,h4⟩:=hg i (Ct.1 hi);exact h4 n (by have:=bC0 (d:=D' i) (l:=(List.range len).map D') (Dc.2 ⟨i,hi,rfl⟩);omega)
end
theorem list5{α:Type}{l:List α}(h:l.length=5):∃c0 c1 c2 c3 c4,l=[c0,c1,c2,c3,c4]:=by
 match l,h with
 |[c0,c1,c2,c3,c4],_=>exact⟨c0,c1,c2,c3,c4,rfl⟩
theorem list7{α:Type}{l:List α}(h:l.length=7):∃c0 c1 c2 c3 c4 c5 c6,l=[c0,c1,c2,c3,c4,c5,c6]:=by
 match l,h with
 |[c0,c1,c2,c3,c4,c5,c6],_=>exact⟨c0,c1,c2,c3,c4,c5,c6,rfl⟩
theorem uU1{α:Type}{l:List α}(h:l.length=10):∃c0 c1 c2 c3 c4 c5 c6 c7 c8 c9,l=[c0,c1,c2,c3,c4,c5,c6,c7,c8,c9]:=by
 match l,h with
 |[c0,c1,c2,c3,c4,c5,c6,c7,c8,c9],_=>exact⟨c0,c1,c2,c3,c4,c5,c6,c7,c8,c9,rfl⟩
theorem jT{W:World}{s:Sb}{d:D}{c:Value}(h:AllV W s (D.pvs [d]) [c]):d.pv.p W s c:=h.1
section
variable{H:Type}{enc:TypeId×Value->H}{W:World}
def intD(p:Bool×List Nat):List D:=[.v (.bool p.1),usD p.2]
set_option maxRecDepth 100000 in
theorem Opn.bigI:Opn enc Tryz.prog W 27 intD (fun p n=>p.2.length<=n/\∀x∈p.2,x<4294967296):=by
 intro fuel cs d ps hl h;have e4:Tryz.prog.cellsOf 4=1:=by kernel_rfl
 have e22:Tryz.prog.cellsOf 25=1:=by kernel_rfl
 have eI:Tryz.prog.cellsOf 27=2:=by kernel_rfl
 rw[eI]at hl
 match cs,hl with
 |[c0,c1],_=>
  obtain⟨xs,n1,_,hx,_,hlen,hg⟩:=DataW.trod_struct Tryz.underlying27 h
  match xs,hlen with
  |[y0,y1],_=>
   have g0:DataW.trod enc Tryz.prog W 0 (fun _=>true) true n1 4 (([c0,c1].drop 0).take (Tryz.prog.cellsOf 4))=some y0:=hg 0 _ rfl;rw[e4]at g0
   replace g0:DataW.trod enc Tryz.prog W 0 (fun _=>true) true n1 4 [c0]=some y0:=g0
   have g1:DataW.trod enc Tryz.prog W 0 (fun _=>true) true n1 25 (([c0,c1].drop 1).take (Tryz.prog.cellsOf 25))=some y1:=hg 1 _ rfl;rw[e22]at g1
   replace g1:DataW.trod enc Tryz.prog W 0 (fun _=>true) true n1 25 [c1]=some y1:=g1
   obtain⟨x0,a0,o0,q0⟩:=Opn.bool Tryz.underlying4 _ _ y0.1 y0.2 (by rw[e4];rfl) g0;obtain⟨x1,a1,o1,q1⟩:=Opn.sl 0 Tryz.underlying25 (sz:=1) kr de (Opn.u32 Tryz.underlying91) _ _ y1.1 y1.2 (by rw[e22];rfl) g1;simp only[Prod.mk.injEq]at hx;refine⟨(x0,x1),⟨jT a0,jT a1,trivial⟩,fun c hc=>?_,fun n hn=>?_⟩
   ·simp only[Bi,List.not_mem_nil,or_false]at hc;rcases hc with rfl|rfl
    ·exact o0 _ (by simp)
    ·exact o1 _ (by simp)
   ·rw[hx.1]at hn;exact q1 n (qO (i:=1) (y:=y1) rfl hn)
set_option maxRecDepth 100000 in
theorem Opn.val:Opn enc Tryz.prog W 29 vlD (fun v n=>n<=1048576->VlIn v):=by
 intro fuel cs d ps hl h;have e3:Tryz.prog.cellsOf 3=1:=by kernel_rfl
 have e9:Tryz.prog.cellsOf 9=1:=by kernel_rfl
 have e24:Tryz.prog.cellsOf 27=2:=by kernel_rfl
 have eV:Tryz.prog.cellsOf 29=7:=by kernel_rfl
 rw[eV]at hl;obtain⟨c0,c1,c2,c3,c4,c5,c6,rfl⟩:=list7 hl;obtain⟨xs,n1,_,hx,_,hlen,hg⟩:=DataW.trod_struct Tryz.underlying29 h;obtain⟨y0,y1,y2,y3,y4,rfl⟩:=list5 hlen;have g0:DataW.trod enc Tryz.prog W 0 (fun _=>true) true n1 3 (([c0,c1,c2,c3,c4,c5,c6].drop 0).take (Tryz.prog.cellsOf 3))=some y0:=hg 0 _ rfl;rw[e3]at g0
 replace g0:DataW.trod enc Tryz.prog W 0 (fun _=>true) true n1 3 [c0]=some y0:=g0
 have g1:DataW.trod enc Tryz.prog W 0 (fun _=>true) true n1 27 (([c0,c1,c2,c3,c4,c5,c6].drop 1).take (Tryz.prog.cellsOf 27))=some y1:=hg 1 _ rfl;rw[e24]at g1
 replace g1:DataW.trod enc Tryz.prog W 0 (fun _=>true) true n1 27 [c1,c2]=some y1:=g1
 have g2:DataW.trod enc Tryz.prog W 0 (fun _=>true) true n1 27 (([c0,c1,c2,c3,c4,c5,c6].drop 3).take (Tryz.prog.cellsOf 27))=some y2:=hg 2 _ rfl;rw[e24]at g2
 replace g2:DataW.trod enc Tryz.prog W 0 (fun _=>true) true n1 27 [c3,c4]=some y2:=g2
 have g3:DataW.trod enc Tryz.prog W 0 (fun _=>true) true n1 9 (([c0,c1,c2,c3,c4,c5,c6].drop 5).take (Tryz.prog.cellsOf 9))=some y3:=hg 3 _ rfl;rw[e9]at g3
 replace g3:DataW.trod enc Tryz.prog W 0 (fun _=>true) true n1 9 [c5]=some y3:=g3
 have g4:DataW.trod enc Tryz.prog W 0 (fun _=>true) true n1 3 (([c0,c1,c2,c3,c4,c5,c6].drop 6).take (Tryz.prog.cellsOf 3))=some y4:=hg 4 _ rfl;rw[e3]at g4
 replace g4:DataW.trod enc Tryz.prog W 0 (fun _=>true) true n1 3 [c6]=some y4:=g4
 obtain⟨x0,a0,o0,q0⟩:=Opn.int Tryz.underlying3 _ _ y0.1 y0.2 (by rw[e3];rfl) g0;obtain⟨x1,a1,o1,q1⟩:=Opn.bigI _ _ y1.1 y1.2 (by rw[e24];rfl) g1;obtain⟨x2,a2,o2,q2⟩:=Opn.bigI _ _ y2.1 y2.2 (by rw[e24];rfl) g2;obtain⟨x3,a3,o3,q3⟩:=Opn.str Tryz.underlying9 _ _ y3.1 y3.2 (by rw[e9];rfl) g3;obtain⟨x4,a4,o4,q4⟩:=Opn.int Tryz.underlying3 _ _ y4.1 y4.2 (by rw[e3];rfl) g4;simp only[Prod.mk.injEq]at hx;refine⟨⟨x0,x1.1,x1.2,x2.1,x2.2,x3,x4⟩,⟨jT a0,a1.1,a1.2.1,a2.1,a2.2.1,jT a3,jT a4,trivial⟩,fun c hc=>?_,fun n hn hn2=>?_⟩
 ·simp only[Bi,List.not_mem_nil,or_false]at hc;rcases hc with rfl|rfl|rfl|rfl|rfl|rfl|rfl
  ·exact o0 _ (by simp)
  ·exact o1 _ (by simp)
  ·exact o1 _ (by simp)
  ·exact o2 _ (by simp)
  ·exact o2 _ (by simp)
  ·exact o3 _ (by simp)
  ·exact o4 _ (by simp)
 ·rw[hx.1]at hn;have b0:=q0 n (qO (i:=0) (y:=y0) rfl hn);have b1:=q1 n (qO (i:=1) (y:=y1) rfl hn);have b2:=q2 n (qO (i:=2) (y:=y2) rfl hn);have b3:=q3 n (qO (i:=3) (y:=y3) rfl hn);have b4:=q4 n (qO (i:=4) (y:=y4) rfl hn);exact⟨b0.1,b0.2,b4.1,b4.2,b1.2,b2.2,by show x1.2.length<=_;omega,by show x2.2.length<=_;omega,by show x3.size<=_;omega⟩
set_option maxRecDepth 100000 in
theorem Opn.obj:Opn enc Tryz.prog W 50 obD (fun o n=>n<=1048576->ObIn o):=by
 intro fuel cs d ps hl h;have e3:Tryz.prog.cellsOf 3=1:=by kernel_rfl
 have e9:Tryz.prog.cellsOf 9=1:=by kernel_rfl
 have eI:Tryz.prog.cellsOf 47=1:=by kernel_rfl
 have eS:Tryz.prog.cellsOf 48=1:=by kernel_rfl
 have eV:Tryz.prog.cellsOf 33=1:=by kernel_rfl
 have eO:Tryz.prog.cellsOf 50=10:=by kernel_rfl
 rw[eO]at hl;obtain⟨c0,c1,c2,c3,c4,c5,c6,c7,c8,c9,rfl⟩:=uU1 hl;obtain⟨xs,n1,_,hx,_,hlen,hg⟩:=DataW.trod_struct Tryz.underlying50 h;obtain⟨y0,y1,y2,y3,y4,y5,y6,y7,y8,y9,rfl⟩:=uU1 hlen;have g0:DataW.trod enc Tryz.prog W 0 (fun _=>true) true n1 3 (([c0,c1,c2,c3,c4,c5,c6,c7,c8,c9].drop 0).take (Tryz.prog.cellsOf 3))=some y0:=hg 0 _ rfl;rw[e3]at g0
 replace g0:DataW.trod enc Tryz.prog W 0 (fun _=>true) true n1 3 [c0]=some y0:=g0
 have g1:DataW.trod enc Tryz.prog W 0 (fun _=>true) true n1 9 (([c0,c1,c2,c3,c4,c5,c6,c7,c8,c9].drop 1).take (Tryz.prog.cellsOf 9))=some y1:=hg 1 _ rfl;rw[e9]at g1
 replace g1:DataW.trod enc Tryz.prog W 0 (fun _=>true) true n1 9 [c1]=some y1:=g1
 have g2:DataW.trod enc Tryz.prog W 0 (fun _=>true) true n1 3 (([c0,c1,c2,c3,c4,c5,c6,c7,c8,c9].drop 2).take (Tryz.prog.cellsOf 3))=some y2:=hg 2 _ rfl;rw[e3]at g2
 replace g2:DataW.trod enc Tryz.prog W 0 (fun _=>true) true n1 3 [c2]=some y2:=g2
 have g3:DataW.trod enc Tryz.prog W 0 (fun _=>true) true n1 47 (([c0,c1,c2,c3,c4,c5,c6,c7,c8,c9].drop 3).take (Tryz.prog.cellsOf 47))=some y3:=hg 3 _ rfl;rw[eI]at g3
 replace g3:DataW.trod enc Tryz.prog W 0 (fun _=>true) true n1 47 [c3]=some y3:=g3
 have g4:DataW.trod enc Tryz.prog W 0 (fun _=>true) true n1 47 (([c0,c1,c2,c3,c4,c5,c6,c7,c8,c9].drop 4).take (Tryz.prog.cellsOf 47))=some y4:=hg 4 _ rfl;rw[eI]at g4
 replace g4:DataW.trod enc Tryz.prog W 0 (fun _=>true) true n1 47 [c4]=some y4:=g4
 have g5:DataW.trod enc Tryz.prog W 0 (fun _=>true) true n1 48 (([c0,c1,c2,c3,c4,c5,c6,c7,c8,c9].drop 5).take (Tryz.prog.cellsOf 48))=some y5:=hg 5 _ rfl;rw[eS]at g5
 replace g5:DataW.trod enc Tryz.prog W 0 (fun _=>true) true n1 48 [c5]=some y5:=g5
 have g6:DataW.trod enc Tryz.prog W 0 (fun _=>true) true n1 33 (([c0,c1,c2,c3,c4,c5,c6,c7,c8,c9].drop 6).take (Tryz.prog.cellsOf 33))=some y6:=hg 6 _ rfl;rw[eV]at g6
 replace g6:DataW.trod enc Tryz.prog W 0 (fun _=>true) true n1 33 [c6]=some y6:=g6
 have g7:DataW.trod enc Tryz.prog W 0 (fun _=>true) true n1 33 (([c0,c1,c2,c3,c4,c5,c6,c7,c8,c9].drop 7).take (Tryz.prog.cellsOf 33))=some y7:=hg 7 _ rfl;rw[eV]at g7
 replace g7:DataW.trod enc Tryz.prog W 0 (fun _=>true) true n1 33 [c7]=some y7:=g7
 have g8:DataW.trod enc Tryz.prog W 0 (fun _=>true) true n1 3 (([c0,c1,c2,c3,c4,c5,c6,c7,c8,c9].drop 8).take (Tryz.prog.cellsOf 3))=some y8:=hg 8 _ rfl;rw[e3]at g8
 replace g8:DataW.trod enc Tryz.prog W 0 (fun _=>true) true n1 3 [c8]=some y8:=g8
 have g9:DataW.trod enc Tryz.prog W 0 (fun _=>true) true n1 3 (([c0,c1,c2,c3,c4,c5,c6,c7,c8,c9].drop 9).take (Tryz.prog.cellsOf 3))=some y9:=hg 9 _ rfl;rw[e3]at g9
 replace g9:DataW.trod enc Tryz.prog W 0 (fun _=>true) true n1 3 [c9]=some y9:=g9
 obtain⟨x0,a0,o0,q0⟩:=Opn.int Tryz.underlying3 _ _ y0.1 y0.2 (by rw[e3];rfl) g0;obtain⟨x1,a1,o1,q1⟩:=Opn.str Tryz.underlying9 _ _ y1.1 y1.2 (by rw[e9];rfl) g1;obtain⟨x2,a2,o2,q2⟩:=Opn.int Tryz.underlying3 _ _ y2.1 y2.2 (by rw[e3];rfl) g2;obtain⟨x3,a3,o3,q3⟩:=Opn.sl 0 Tryz.underlying47 (sz:=1) kr de (Opn.int Tryz.underlying3) _ _ y3.1 y3.2 (by rw[eI];rfl) g3;obtain⟨x4,a4,o4,q4⟩:=Opn.sl 0 Tryz.underlying47 (sz:=1) kr de (Opn.int Tryz.underlying3) _ _ y4.1 y4.2 (by rw[eI];rfl) g4;obtain⟨x5,a5,o5,q5⟩:=Opn.sl ByteArray.empty Tryz.underlying48 (sz:=1) kr de (Opn.str Tryz.underlying9) _ _ y5.1 y5.2 (by rw[eS];rfl) g5;obtain⟨x6,a6,o6,q6⟩:=Opn.sl vl0 Tryz.underlying33 (sz:=7) kr de Opn.val _ _ y6.1 y6.2 (by rw[eV];rfl) g6;obtain⟨x7,a7,o7,q7⟩:=Opn.sl vl0 Tryz.underlying33 (sz:=7) kr de Opn.val _ _ y7.1 y7.2 (by rw[eV];rfl) g7;obtain⟨x8,a8,o8,q8⟩:=Opn.int Tryz.underlying3 _ _ y8.1 y8.2 (by rw[e3];rfl) g8;obtain⟨x9,a9,o9,q9⟩:=Opn.int Tryz.underlying3 _ _ y9.1 y9.2 (by rw[e3];rfl) g9;simp only[Prod.mk.injEq]at hx;refine⟨⟨x0,x1,x2,x3,x4,x5,x6,x7,x8,x9⟩,⟨jT a0,jT a1,jT a2,jT a3,jT a4,jT a5,jT a6,jT a7,jT a8,jT a9,trivial⟩,fun c hc=>?_,fun n hn hn2=>?_⟩
 ·simp only[Bi,List.not_mem_nil,or_false]at hc;rcases hc with rfl|rfl|rfl|rfl|rfl|rfl|rfl|rfl|rfl|rfl
  ·exact o0 _ (by simp)
  ·exact o1 _ (by simp)
  ·exact o2 _ (by simp)
  ·exact o3 _ (by simp)
  ·exact o4 _ (by simp)
  ·exact o5 _ (by simp)
  ·exact o6 _ (by simp)
  ·exact o7 _ (by simp)
  ·exact o8 _ (by simp)
  ·exact o9 _ (by simp)
 ·rw[hx.1]at hn;have b0:=q0 n (qO (i:=0) (y:=y0) rfl hn);have b1:=q1 n (qO (i:=1) (y:=y1) rfl hn);have b2:=q2 n (qO (i:=2) (y:=y2) rfl hn);have b3:=q3 n (qO (i:=3) (y:=y3) rfl hn);have b4:=q4 n (qO (i:=4) (y:=y4) rfl hn);have b5:=q5 n (qO (i:=5) (y:=y5) rfl hn);have b6:=q6 n (qO (i:=6) (y:=y6) rfl hn);have b7:=q7 n (qO (i:=7) (y:=y7) rfl hn);have b8:=q8 n (qO (i:=8) (y:=y8) rfl hn);have b9:=q9 n (qO (i:=9) (y:=y9) rfl hn)
  exact⟨b0,b2,b8,b9,by show x1.size<=_;omega,by show x3.length<=_;omega,by show x4.length<=_;omega,by show x5.length<=_;omega,by show x6.length<=_;omega,by show x7.length<=_;omega,
   fun s hs=>by have:=b5.2 s hs;omega,fun v hv=>b6.2 v hv hn2,fun v hv=>b7.2 v hv hn2⟩
def hpL(h:List Ob):List D:=[.sl false 10 h obD ob0]
set_option maxRecDepth 100000 in
theorem Opn.heap:Opn enc Tryz.prog W 24 hpL (fun h n=>n<=1048576->HpIn h):=by
 intro fuel cs d ps hl h;have eH:Tryz.prog.cellsOf 24=1:=by kernel_rfl
 have eO:Tryz.prog.cellsOf 22=1:=by kernel_rfl
 rw[eH]at hl
 match cs,hl with
 |[c0],_=>
  obtain⟨xs,n1,_,hx,_,hlen,hg⟩:=DataW.trod_struct Tryz.underlying24 h
  match xs,hlen with
  |[y0],_=>
   have g0:DataW.trod enc Tryz.prog W 0 (fun _=>true) true n1 22 (([c0].drop 0).take (Tryz.prog.cellsOf 22))=some y0:=hg 0 _ rfl;rw[eO]at g0
   replace g0:DataW.trod enc Tryz.prog W 0 (fun _=>true) true n1 22 [c0]=some y0:=g0
   obtain⟨x0,a0,o0,q0⟩:=Opn.sl ob0 Tryz.underlying22 (sz:=10) kr de Opn.obj _ _ y0.1 y0.2 (by rw[eO];rfl) g0;simp only[Prod.mk.injEq]at hx;refine⟨x0,a0,o0,fun n hn hn2=>?_⟩;rw[hx.1]at hn;have b0:=q0 n (qO (i:=0) (y:=y0) rfl hn);exact⟨fun o ho=>b0.2 o ho hn2,by omega⟩
theorem Opn.agg{P:Program}{α:Type}{f:α->List D}{Q:α->Nat->Prop}{t:TypeId}{fs:Array Field}{base:Nat}(ho:Opn enc P W t f Q)(ht:P.underlying t=some (.struct fs)){v:Value}{d:DataW H}{ps:List MemPlace}
  (hv:Value.okWide P W .any base t v) (h:DataW.Trod enc P W 0 (fun _=>true) true t v d ps):
  ∃x,(D.agg (f x)).pv.p W (sW W) v/\∀n,Rows.uptoBulk d<=n->Q x n:=by
 obtain⟨cs,rfl,hsz⟩:=okWide_struct ht hv;obtain⟨l⟩:=cs;obtain⟨fuel,hf⟩:=h;obtain⟨x,h1,-,h3⟩:=ho fuel l d ps hsz hf;exact⟨x,⟨l,rfl,h1⟩,h3⟩
end


open Go.ChangeShapes Go.WideShapes Go.ChangeAt Go.RowKit
theorem dB{H:Type}{enc:TypeId×Value->H}{P:Program}(hl:laidOutB P=true){W W':World}(hb:Below W.heap.size W W'):
  ∀(ts:List TypeId)(vs:List Value)(ds:List (DataW H))(ps:List MemPlace),(∀t∈ts,P.readableRec t=true/\t<P.types.size)->
   DataW.TrodAll enc P W 0 (fun _=>true) true ts vs ds ps->DataW.TrodAll enc P W' 0 (fun b=>decide (b<W.heap.size)) true ts vs ds ps
 |[],[],[],ps,_,h=>h
 |t::ts,v::vs,d::ds,ps,hr,h=>by
  obtain⟨p,q,hp,hq,e⟩:=h;have lt:∀x∈p,x.block<W.heap.size:=by obtain⟨m,hm⟩:=hp;exact DataW.trod_lt m _ _ _ hm
  have ht:=hr t (by simp);exact⟨p,q,Below.trod hl ht.1 ht.2 hp hb lt,dB hl hb ts vs ds q (fun x hx=>hr x (by simp[hx])) hq,e⟩
 |[],[],_::_,_,_,h=>by simp[DataW.TrodAll]at h
 |[],_::_,_,_,_,h=>by simp[DataW.TrodAll]at h
 |_::_,[],_,_,_,h=>by simp[DataW.TrodAll]at h
 |_::_,_::_,[],_,_,h=>by simp[DataW.TrodAll]at h
open Go.ChangeShapes Go.WideShapes Go.ChangeAt Go.RowKit Go.Shelf
theorem Law_own:ownKnob Tryz.prog.godebug=none:=by kernel_rfl
theorem accept_same:(Rows.laid_unicode_utf8_acceptRanges:DataW Unit)=Lib.acceptData:=by kernel_rfl
theorem first_same:(Rows.laid_unicode_utf8_first:DataW Unit)=Lib.firstData:=by kernel_rfl
theorem space_same:(Rows.laid_strings_asciiSpace:DataW Unit)=Lib.tabData .u8 Lib.asciiSpaceTab:=by kernel_rfl
theorem pow_same:(Rows.laid_internal_strconv_uint64pow10:DataW Unit)=Lib.tabData .u64 Lib.pow10Tab:=by kernel_rfl
theorem cS0{W:World}(hL:laidMetH Tryz.prog Rows.operatorsItemMatchesSpecUptoRow.laid W):Lib.TabIs Tryz.prog W "internal/strconv.uint64pow10" .u64 Lib.pow10Tab:=by
 have h5:Lib.VarReads Tryz.prog W "internal/strconv.uint64pow10" Rows.laid_internal_strconv_uint64pow10:=Lib.laidMet.reads hL (.tail _ (.tail _ (.head _)));rw[pow_same]at h5;obtain⟨g,t,cs,fuel,p,hg,hty,hvar,hd⟩:=h5;obtain rfl:=Option.some.inj ((show Tryz.prog.globalNamed "internal/strconv.uint64pow10" =some 5 by kernel_rfl).symm.trans hg);obtain rfl:=Option.some.inj ((show(Tryz.prog.globals[5]?).map (·.type)=some 283 by kernel_rfl).symm.trans hty);have:=Lib.cells_of_tab Tryz.underlying283 Tryz.underlying165 kr kr hd;unfold Lib.TabIs;rw[hvar,<-this]
theorem Law_z{W:World}(hL:laidMetH Tryz.prog Rows.operatorsItemMatchesSpecUptoRow.laid W)(o:Nat)(ho:20<=o):W.cell? ⟨5,o,none⟩=none/\sW W 5 o:=by
 have h:=cS0 hL;have hg:Tryz.prog.globalNamed "internal/strconv.uint64pow10" =some 5:=by kernel_rfl
 refine⟨?_,?_⟩
 ·rw[World.var?_cell hg h o,Dv];exact Cz (by rw[An,Lib.pow10Tab_length];exact ho)
 ·exact World.block_lt_of_cell? _ _ (h.cell hg 0 (by rw[Lib.pow10Tab_length];decide))
theorem tab_p16{W:World}(hL:laidMetH Tryz.prog Rows.operatorsItemMatchesSpecUptoRow.laid W):Lib.TabSlice 6 .u16 Lib.goPrintTabs.p16 W:=
 Lib.tabSlice_of_reads (name:= "strconv.isPrint16") (t:=286) (e:=242) kr kr Tryz.underlying286 Tryz.underlying242 kr (by decide+kernel) (by
  have h:Lib.VarReads Tryz.prog W "strconv.isPrint16" Rows.laid_strconv_isPrint16:=Lib.laidMet.reads hL (.tail _ (.tail _ (.tail _ (.tail _ (.tail _ (.tail _ (.tail _ (.tail _ (.tail _ (.head _))))))))))
  rwa[show(Rows.laid_strconv_isPrint16:DataW Unit)=Lib.sliceData .u16 Lib.goPrintTabs.p16 from Go.Pinned.isPrint16_eq]at h)
theorem tab_n16{W:World}(hL:laidMetH Tryz.prog Rows.operatorsItemMatchesSpecUptoRow.laid W):Lib.TabSlice 7 .u16 Lib.goPrintTabs.n16 W:=
 Lib.tabSlice_of_reads (name:= "strconv.isNotPrint16") (t:=286) (e:=242) kr kr Tryz.underlying286 Tryz.underlying242 kr (by decide+kernel) (by
  have h:Lib.VarReads Tryz.prog W "strconv.isNotPrint16" Rows.laid_strconv_isNotPrint16:=Lib.laidMet.reads hL (.tail _ (.tail _ (.tail _ (.tail _ (.tail _ (.tail _ (.tail _ (.head _))))))))
  rwa[show(Rows.laid_strconv_isNotPrint16:DataW Unit)=Lib.sliceData .u16 Lib.goPrintTabs.n16 from Go.Pinned.isNotPrint16_eq]at h)
theorem tab_p32{W:World}(hL:laidMetH Tryz.prog Rows.operatorsItemMatchesSpecUptoRow.laid W):Lib.TabSlice 8 .u32 Lib.goPrintTabs.p32 W:=
 Lib.tabSlice_of_reads (name:= "strconv.isPrint32") (t:=25) (e:=91) kr kr Tryz.underlying25 Tryz.underlying91 kr (by decide+kernel) (by
  have h:Lib.VarReads Tryz.prog W "strconv.isPrint32" Rows.laid_strconv_isPrint32:=Lib.laidMet.reads hL (.tail _ (.tail _ (.tail _ (.tail _ (.tail _ (.tail _ (.tail _ (.tail _ (.tail _ (.tail _ (.head _)))))))))))
  rwa[show(Rows.laid_strconv_isPrint32:DataW Unit)=Lib.sliceData .u32 Lib.goPrintTabs.p32 from Go.Pinned.isPrint32_eq]at h)
theorem tab_n32{W:World}(hL:laidMetH Tryz.prog Rows.operatorsItemMatchesSpecUptoRow.laid W):Lib.TabSlice 9 .u16 Lib.goPrintTabs.n32 W:=
 Lib.tabSlice_of_reads (name:= "strconv.isNotPrint32") (t:=286) (e:=242) kr kr Tryz.underlying286 Tryz.underlying242 kr (by decide+kernel) (by
  have h:Lib.VarReads Tryz.prog W "strconv.isNotPrint32" Rows.laid_strconv_isNotPrint32:=Lib.laidMet.reads hL (.tail _ (.tail _ (.tail _ (.tail _ (.tail _ (.tail _ (.tail _ (.tail _ (.head _)))))))))
  rwa[show(Rows.laid_strconv_isNotPrint32:DataW Unit)=Lib.sliceData .u16 Lib.goPrintTabs.n32 from Go.Pinned.isNotPrint32_eq]at h)
def pS0:List (DataW Unit)->List Value
 |[]=>[]
 | .lit (.int k n)::l=> .int k n::pS0 l
 |_::l=>undef::pS0 l
def jU1:DataW Unit->Array Value
 | .agg l=>(pS0 l).toArray
 | .slice l _=>(pS0 l).toArray
 |_=> #[]
theorem Law_glob{W:World}(hL:laidMetH Tryz.prog Rows.operatorsItemMatchesSpecUptoRow.laid W)(hs:W.ShapedOpen Tryz.prog):Glb W (sW W):=by
 have h3:Lib.VarReads Tryz.prog W "unicode/utf8.first" Rows.laid_unicode_utf8_first:=Lib.laidMet.reads hL (.tail _ (.tail _ (.tail _ (.tail _ (.tail _ (.tail _ (.tail _ (.tail _ (.tail _ (.tail _ (.tail _ (.head _))))))))))));have h4:Lib.VarReads Tryz.prog W "unicode/utf8.acceptRanges" Rows.laid_unicode_utf8_acceptRanges:=Lib.laidMet.reads hL (.tail _ (.tail _ (.tail _ (.head _))));have h5:Lib.VarReads Tryz.prog W "strings.asciiSpace" Rows.laid_strings_asciiSpace:=Lib.laidMet.reads hL (.tail _ (.tail _ (.tail _ (.tail _ (.tail _ (.head _))))));rw[first_same]at h3;rw[accept_same]at h4;rw[space_same]at h5;have hT:Lib.Utf8Tabs 1 2 W:=utf8Tabs_of_readsT (U8Types.of196 Tryz.laysValid) ⟨by kernel_rfl,by kernel_rfl,by kernel_rfl,by kernel_rfl,by kernel_rfl,by kernel_rfl,by kernel_rfl⟩ h3 h4;have hS:Lib.TabIs Tryz.prog W "strings.asciiSpace" .u8 Lib.asciiSpaceTab:=by
  obtain⟨g,t,cs,fuel,p,hg,hty,hvar,hd⟩:=h5;obtain rfl:=Option.some.inj ((show Tryz.prog.globalNamed "strings.asciiSpace" =some 0 by kernel_rfl).symm.trans hg);obtain rfl:=Option.some.inj ((show(Tryz.prog.globals[0]?).map (·.type)=some 185 by kernel_rfl).symm.trans hty);have:=Lib.cells_of_tab Tryz.underlying185 Tryz.underlying5 kr kr hd;unfold Lib.TabIs;rw[hvar,<-this]
 have hM:=Go.Proofs.cell_of_shapedOpen_int (g:=4) (t:=3) (zero:= #[.int .i64 0]) hs (Ag kr) kr rfl kr kr Tryz.underlying3;refine⟨fun b o=>W.cell? ⟨b,o,none⟩,⟨hM,fun c hc=>hT.1 c hc,fun i hi=>hT.2 i hi,fun c hc=>?_,fun i hi=>(cS0 hL).cell kr i (by rw[Lib.pow10Tab_length];exact hi),tab_p16 hL,tab_n16 hL,tab_p32 hL,tab_n32 hL⟩,fun b o v hv=>⟨hv,World.block_lt_of_cell? _ _ hv⟩,fun b o h=>by cases h with|pow10 o ho=>exact Law_z hL _ ho⟩;show W.cell? ⟨0,c,none⟩=_;rw[hS.cell kr c (by rw[Lib.asciiSpaceTab_length];exact hc),Lib.asciiSpaceTab_at c hc]
noncomputable def Law_world (os:Os):World:=
 let N:=(World.settled Tryz.prog os).heap.size
 let w0:=World.holding Tryz.prog os ⟨#[.cells (Lib.whiteT.map fun(z:Nat)=>Value.int .u16 (z:Int)).toArray 244,.cells #[.slice (some ⟨N,0,none⟩) 7 7,.slice none 0 0,.int .i64 2] 241,.cells (jU1 Rows.laid_strconv_isGraphic) 242,.cells (Lib.intCellsOf .u16 Lib.goPrintTabs.n16) 242,.cells (Lib.intCellsOf .u16 Lib.goPrintTabs.n32) 242,.cells (Lib.intCellsOf .u16 Lib.goPrintTabs.p16) 242,.cells (Lib.intCellsOf .u32 Lib.goPrintTabs.p32) 91],#[],[]⟩
 let put (h:Array Obj) (g:Nat) (cs:Array Value):Array Obj:=h.modify g fun
  | .cells _ t frozen=> .cells cs t frozen
  |o=>o
 let h1:=put w0.heap 0 (Lib.asciiSpaceTab.map fun z=>Value.int .u8 z).toArray
 let h2:=put h1 1 (Lib.firstTab.map fun z=>Value.int .u8 z).toArray
 let h3:=put h2 2 ((List.range 16).flatMap fun i=>[Value.int .u8 (Lib.accLo i),Value.int .u8 (Lib.accHi i)]).toArray
 let h4:=put h3 3 #[.pointer (some ⟨N+1,0,none⟩)]
 let h5:=put h4 11 (jU1 Rows.laid_math_bits_deBruijn32tab)
 let h6:=put h5 12 (jU1 Rows.laid_math_bits_deBruijn64tab)
 let h7:=put h6 5 (jU1 Rows.laid_internal_strconv_uint64pow10)
 let h8:=put h7 10 #[.slice (some ⟨N+2,0,none⟩) 16 16]
 let h9:=put h8 7 #[.slice (some ⟨N+3,0,none⟩) Lib.goPrintTabs.n16.length Lib.goPrintTabs.n16.length]
 let h10:=put h9 9 #[.slice (some ⟨N+4,0,none⟩) Lib.goPrintTabs.n32.length Lib.goPrintTabs.n32.length]
 let h11:=put h10 6 #[.slice (some ⟨N+5,0,none⟩) Lib.goPrintTabs.p16.length Lib.goPrintTabs.p16.length]
 let h12:=put h11 8 #[.slice (some ⟨N+6,0,none⟩) Lib.goPrintTabs.p32.length Lib.goPrintTabs.p32.length]
 {w0 with heap:=h12}
def Law_arg:Array Value:= #[.agg #[.slice none 0 0],.agg #[.int .i64 0,.bool false,.slice none 0 0,.bool false,.slice none 0 0,.string ⟨#[]⟩,.int .i64 0],.agg #[.int .i64 0,.bool false,.slice none 0 0,.bool false,.slice none 0 0,.string ⟨#[]⟩,.int .i64 0],.agg #[.int .i64 0,.bool false,.slice none 0 0,.bool false,.slice none 0 0,.string ⟨#[]⟩,.int .i64 0]]
noncomputable abbrev N0:Nat:=(World.settled Tryz.prog default).heap.size
theorem Law_pc0(os:Os):LaidIn Tryz.prog ((Law_world os).forCall (fun _ _=>0) ⟨#[],Law_arg,[]⟩).memory ((Rows.operatorsItemMatchesSpecUptoRow.laid.drop 0).take 7) [11,12,5,2,3,N0,N0+1,0,10,N0+2]:=
 LaidIn.of_run [11,12,5,2,3,N0,N0+1,0,10,N0+2] 10 kr kr kr kr
set_option maxRecDepth 1000000 in
theorem Law_pc1(os:Os):LaidIn Tryz.prog ((Law_world os).forCall (fun _ _=>0) ⟨#[],Law_arg,[]⟩).memory [("strconv.isNotPrint16",Rows.laid_strconv_isNotPrint16)] [7,N0+3]:=by
 rw[show(Rows.laid_strconv_isNotPrint16:DataW Unit)=Lib.sliceData .u16 Lib.goPrintTabs.n16 from Go.Pinned.isNotPrint16_eq];exact Lib.laidIn_slice (t:=286) (e:=242) (te:=242) Lib.goPrintTabs.n16 (N0+3) kr kr kr kr kr kr kr kr (Ag kr) (Ag kr)
set_option maxRecDepth 1000000 in
theorem Law_pc2(os:Os):LaidIn Tryz.prog ((Law_world os).forCall (fun _ _=>0) ⟨#[],Law_arg,[]⟩).memory [("strconv.isNotPrint32",Rows.laid_strconv_isNotPrint32)] [9,N0+4]:=by
 rw[show(Rows.laid_strconv_isNotPrint32:DataW Unit)=Lib.sliceData .u16 Lib.goPrintTabs.n32 from Go.Pinned.isNotPrint32_eq];exact Lib.laidIn_slice (t:=286) (e:=242) (te:=242) Lib.goPrintTabs.n32 (N0+4) kr kr kr kr kr kr kr kr (Ag kr) (Ag kr)
set_option maxRecDepth 1000000 in
theorem Law_pc3(os:Os):LaidIn Tryz.prog ((Law_world os).forCall (fun _ _=>0) ⟨#[],Law_arg,[]⟩).memory [("strconv.isPrint16",Rows.laid_strconv_isPrint16)] [6,N0+5]:=by
 rw[show(Rows.laid_strconv_isPrint16:DataW Unit)=Lib.sliceData .u16 Lib.goPrintTabs.p16 from Go.Pinned.isPrint16_eq];exact Lib.laidIn_slice (t:=286) (e:=242) (te:=242) Lib.goPrintTabs.p16 (N0+5) kr kr kr kr kr kr kr kr (Ag kr) (Ag kr)
set_option maxRecDepth 1000000 in
theorem Law_pc4(os:Os):LaidIn Tryz.prog ((Law_world os).forCall (fun _ _=>0) ⟨#[],Law_arg,[]⟩).memory [("strconv.isPrint32",Rows.laid_strconv_isPrint32)] [8,N0+6]:=by
 rw[show(Rows.laid_strconv_isPrint32:DataW Unit)=Lib.sliceData .u32 Lib.goPrintTabs.p32 from Go.Pinned.isPrint32_eq];exact Lib.laidIn_slice (t:=25) (e:=91) (te:=91) Lib.goPrintTabs.p32 (N0+6) kr kr kr kr kr kr kr kr (Ag kr) (Ag kr)
theorem Law_pc5(os:Os):LaidIn Tryz.prog ((Law_world os).forCall (fun _ _=>0) ⟨#[],Law_arg,[]⟩).memory ((Rows.operatorsItemMatchesSpecUptoRow.laid.drop 11).take 1) [1]:=
 LaidIn.of_run [1] 10 kr kr kr kr
theorem Law_met(os:Os):laidMet Tryz.prog Rows.operatorsItemMatchesSpecUptoRow.laid ((Law_world os).forCall (fun _ _=>0) ⟨#[],Law_arg,[]⟩).memory:=
 ((((((Law_pc0 os).append (Law_pc1 os) kr).append (Law_pc2 os) kr).append (Law_pc3 os) kr).append (Law_pc4 os) kr).append (Law_pc5 os) kr).met
theorem Law_row(os:Os){H:Type}(enc:TypeId×Value->H):
  (Rows.OpenSpec.upto Rows.operatorsItemMatchesSpecSpec).preRow enc Tryz.prog Tryz.f3 Rows.operatorsItemMatchesSpecUptoRow.domain false Rows.operatorsItemMatchesSpecUptoRow.laid ((Law_world os).forCall (fun _ _=>0) ⟨#[],Law_arg,[]⟩).memory Law_arg:=by
 have hw:(DataW.whole enc Tryz.prog ((Law_world os).forCall (fun _ _=>0) ⟨#[],Law_arg,[]⟩).memory Tryz.f3.params.toList Rows.operatorsItemMatchesSpecSpec.vars false Law_arg.toList 8).map (fun x=>(x.1,x.2.1))=
   some ([.agg [.nil],.agg [.lit (.int .i64 0),.agg [.lit (.bool false),.nil],.agg [.lit (.bool false),.nil],.lit (.string []),.lit (.int .i64 0)],.agg [.lit (.int .i64 0),.agg [.lit (.bool false),.nil],.agg [.lit (.bool false),.nil],.lit (.string []),.lit (.int .i64 0)],.agg [.lit (.int .i64 0),.agg [.lit (.bool false),.nil],.agg [.lit (.bool false),.nil],.lit (.string []),.lit (.int .i64 0)]],[]):=by kernel_rfl
 obtain⟨⟨x1,x2,x3⟩,hx,hx1⟩:=Option.map_eq_some_iff.1 hw;simp only[Prod.mk.injEq]at hx1;obtain⟨rfl,rfl⟩:=hx1;exact OpenSpec.preRow_of_cond 8 hx kr (fun k hk=>by cases hk;kernel_rfl) kr (Law_met os)
set_option maxRecDepth 100000 in
set_option maxHeartbeats 2000000 in
theorem Law_lifted(os:Os)(started:os.Started)(H:Type)(enc:TypeId×Value->H)(F:Stop.Interp):
  ReturnsInHanded {} Tryz.checked os 3 .any ((Rows.OpenSpec.upto Rows.operatorsItemMatchesSpecSpec).preRow enc Tryz.prog Tryz.f3 Rows.operatorsItemMatchesSpecUptoRow.domain false Rows.operatorsItemMatchesSpecUptoRow.laid) (((Rows.OpenSpec.upto Rows.operatorsItemMatchesSpecSpec).at F).post enc Tryz.prog Tryz.f3 false true false false):=by
 refine returnsInHanded_of_row (C:=Tryz.checked) (s:=Rows.OpenSpec.upto Rows.operatorsItemMatchesSpecSpec) Law_own started kr Tryz.func3
  (witness_row_atRef (enc:=enc) (C:=Tryz.checked) false (Law_world os) Law_arg rfl kr kr kr (Law_row os enc)) ?_
 intro W base args ds gs before hval0 hW _ hk _ hL hS _;have hval:∀(j:Nat)t v,Tryz.f3.params[j]?=some t->args[j]?=some v->Value.okWide Tryz.prog W .any base t v:=hval0;have hW':=hW;obtain⟨p,q,hA0,hV,rfl,hfz,hnd⟩:=hW;have hA:DataW.TrodAll enc Tryz.prog W 0 (fun _=>true) true Tryz.f3.params.toList args.toList ds p:=hA0;obtain⟨rfl,rfl⟩:=trodVars_none hV;have hA1:=hA;rw[Tryz.params3]at hA hval;obtain⟨v0,vs0,d0,ds0,p0,q0,hargs,rfl,rfl,h0,r0⟩:=trodAll_cons hA;obtain⟨v1,vs1,d1,ds1,p1,q1,rfl,rfl,rfl,h1,r1⟩:=trodAll_cons r0;obtain⟨v2,vs2,d2,ds2,p2,q2,rfl,rfl,rfl,h2,r2⟩:=trodAll_cons r1;obtain⟨v3,vs3,d3,ds3,p3,q3,rfl,rfl,rfl,h3,r3⟩:=trodAll_cons r2;obtain⟨rfl,rfl,rfl⟩:=trodAll_nil r3;obtain rfl:args= #[v0,v1,v2,v3]:=by cases args;simp_all
 have hb:Rows.uptoBulkAll [d0,d1,d2,d3]<=1048576:=by
  have:=hk _ rfl;simpa[Rows.uptoSmall]using this
 simp only[Rows.uptoBulkAll]at hb;obtain⟨x0,a0,i0⟩:=Opn.agg Opn.heap Tryz.underlying24 (hval 0 24 v0 rfl rfl) h0;obtain⟨x1,a1,i1⟩:=Opn.agg Opn.val Tryz.underlying29 (hval 1 29 v1 rfl rfl) h1;obtain⟨x2,a2,i2⟩:=Opn.agg Opn.val Tryz.underlying29 (hval 2 29 v2 rfl rfl) h2;obtain⟨x3,a3,i3⟩:=Opn.agg Opn.val Tryz.underlying29 (hval 3 29 v3 rfl rfl) h3;have hG:=Law_glob hL hS;refine((Law44_ok x0 x1 x2 x3 (i0 1048576 om (Ar _)) (i1 1048576 om (Ar _)) (i2 1048576 om (Ar _)) (i3 1048576 om (Ar _))).2 W (sW W) [v0,v1,v2,v3] (fun _ _ h=>h) hG ⟨a0,a1,a2,a3,trivial⟩).mono fun e W' hQ=>?_;obtain⟨s',x,he,hp,hst⟩:=hQ;have hp:x= .bool true:=hp;subst hp;subst he;have bel:=hst.below;have hl:laidOutB Tryz.prog=true:=by kernel_rfl
 have hread:Tryz.f3.params.toList.all (fun t=>Tryz.prog.readableRec t&&decide (t<Tryz.prog.types.size))=true:=by kernel_rfl
 refine⟨_,rfl,[d0,d1,d2,d3],[],_,[],(p0++(p1++(p2++(p3++([]))))),[],hW',?_,?_,?_,bel.frame _,fun h=>by cases h⟩
 ·exact trodAll_mk1 (shut_bool Tryz.underlying4 _)
 ·exact dB hl bel _ _ _ _ (fun t ht=>by have:=Bl.1 hread t ht;simpa using this) hA1
 ·rfl
theorem Law_fi:(Rows.operatorsItemMatchesSpecUptoRow.inPlace==Tryz.pinned.checked.prog.inPlace 3)=true:=by kernel_rfl
theorem Law_fu:(Rows.operatorsItemMatchesSpecUptoRow.unfollowed==Tryz.pinned.checked.prog.unfollowed 3)=true:=by kernel_rfl
theorem Law_fr:(Rows.operatorsItemMatchesSpecUptoRow.recurses==Tryz.pinned.checked.prog.recurses 3)=true:=by kernel_rfl
theorem Law_fn:(Rows.operatorsItemMatchesSpecUptoRow.named==Tryz.pinned.checked.prog.varsNamed 3)=true:=by kernel_rfl
theorem Law_facts:joinedFacts Tryz.pinned.checked.prog 3 Tryz.f3 (Rows.OpenSpec.upto Rows.operatorsItemMatchesSpecSpec).bare Rows.operatorsItemMatchesSpecUptoRow=true:=by
 unfold joinedFacts;rw[Law_fi,Law_fu,Law_fr,Law_fn];kernel_rfl
theorem Law_inst:Tryz.f3.isInstance Tryz.pinned.checked.prog Rows.operatorsItemMatchesSpecUptoRow.origin Rows.operatorsItemMatchesSpecUptoRow.targs:=Ag kr
theorem Law_wrap:Tryz.f3.isWrapper Tryz.pinned.checked.prog Rows.operatorsItemMatchesSpecUptoRow.wrapper Rows.operatorsItemMatchesSpecUptoRow.mainSum:=by unfold Func.isWrapper;first|(rw[Ab (by decide+kernel)];kernel_rfl)|(rw[Aa (by decide+kernel)];exact⟨rfl,rfl⟩)
theorem Law_named:Tryz.pinned.checked.prog.funcNamed Rows.operatorsItemMatchesSpecUptoRow.func=some 3:=by kernel_rfl
theorem Law_looks:false=Tryz.pinned.checked.prog.looks []:=by kernel_rfl
theorem Law_goes:false=Rows.operatorsItemMatchesSpecUptoRow.goesBy Tryz.pinned.checked.prog:=by kernel_rfl
theorem Law_wf:Rows.operatorsItemMatchesSpecUptoRow.wfByText (Rows.OpenSpec.upto Rows.operatorsItemMatchesSpecSpec)=true:=by kernel_rfl
theorem Law_main:Tryz.pinned.checked.prog.mainIs=some (Rows.operatorsItemMatchesSpecUptoCard.stood.harness.1,Rows.operatorsItemMatchesSpecUptoCard.stood.harness.2.toList):=by kernel_rfl
theorem Law_said:Rows.OperatorsItemMatchesSpecUptoSaid:=
 OpenClaim.holds_of_cond 3 Tryz.f3 rfl rfl rfl rfl rfl rfl rfl ⟨rfl,rfl,rfl,rfl,rfl⟩ rfl rfl rfl rfl rfl Law_named Tryz.func3 Law_facts Law_inst Law_wrap
  (fun os started H enc _ F=>by rw[OpenClaim.pre_eq_preRow];exact Law_lifted os started H enc F)
theorem Law_plain(f:FuncId)(fn:Func)(hf:Tryz.pinned.checked.prog.funcNamed "brindlewood/brindlewoodlaw7.OperatorsItemMatchesSpec" =some f)(hfn:Tryz.pinned.checked.prog.funcs[f]?=some fn):
  false=Tryz.pinned.checked.prog.looks []/\∀(j:Nat)t,fn.params[j]?=some t->Tryz.pinned.checked.prog.wantsStandIn t=false:=by
 obtain rfl:f=3:=Option.some.inj (Law_named.symm.trans hf)|>.symm;obtain rfl:fn=Tryz.f3:=(Option.some.inj (Tryz.func3.symm.trans hfn)).symm;refine⟨Law_looks,fun j t ht=>?_⟩;rw[Tryz.params3]at ht;have hm:=Array.mem_of_getElem? ht;simp only[List.mem_toArray,Bi,List.not_mem_nil,or_false]at hm;have wh:Tryz.prog.wantsStandIn 24=false:=by kernel_rfl
 have wv:Tryz.prog.wantsStandIn 29=false:=by kernel_rfl
 rcases hm with rfl|rfl|rfl|rfl
 ·exact wh
 ·exact wv
 ·exact wv
 ·exact wv
theorem Law_holds:Rows.OperatorsItemMatchesSpecUptoCardSaid:=
 Claim7.holds_tied_plain_at .later [] _ _ _ _ Law_said (fun _ h=>by cases h) Law_wf (fun _ h=>by cases h) operatorsItemMatchesSpecUpto_row_tie rfl ⟨rfl,rfl⟩ Law_main rfl Law_plain Law_goes
end Go.Proofs.YtammfbdgjnkolaaGreatDoor
