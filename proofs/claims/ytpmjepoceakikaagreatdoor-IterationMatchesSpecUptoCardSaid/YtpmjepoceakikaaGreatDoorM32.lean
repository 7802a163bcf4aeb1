/-Part 32 of the proof. -/
import Derived.Test.YtpmjepoceakikaaGreatDoorM31
import Derived.Test.YtpmjepoceakikaaGreatDoorM29
namespace Go.Proofs.YtpmjepoceakikaaGreatDoor
open Go.RowKit
variable{md me:Bool}
structure Skc(h:List Ob)(l:List Vl):Prop where
 hc:HpC h
 hn:h.length<=2000000
 vc:∀v∈l,VlC h.length v
 ln:l.length<=2000000
 cost:cVs l+cH h<=1073741824
theorem cOs_le{h:List Ob}{m:Nat}(hm:m<=h.length):cOs h (List.range m)<=cH h:=cL List.nodup_range fun n hn=>by have:=Ct.1 hn;omega
theorem cOs_succ(h:List Ob)(m:Nat):cOs h (List.range (m+1))=cOs h (List.range m)+cO (h.getD m ob0):=by
 rw[cOs,cOs,List.range_succ,Ad,Ed,En,Eo]
theorem SkI.nil(b:Int)(N:Nat):SkI b N ⟨[],[]⟩:=⟨(fun _ h=>by cases h),List.nodup_nil⟩
theorem Rn.cost{b:Int}{e:Bool}{h:List Ob}{m C:Nat}{kf:Skt}(x:Rn b e h m C kf)(hi:x.i<x.k.ord.length)(hm:(m:Int)<=b)(hm2:m<=h.length):x.k.out.length+cO (h.getD (x.k.ord.getD x.i 0).toNat ob0)<=C+cH h:=by
 have h1:=x.len;have h2:=dI0 (i:=x.i+1) x.inv hm hm2;have e0:x.k.ord.getD x.i 0=x.k.ord[x.i]:=by rw[Ac,Ae hi];rfl
 rw[List.take_add_one,Ae hi]at h2;rw[e0];simp only[cOs,Ad,Ed,Option.toList_some,By,List.map_nil,Cw,List.sum_nil,Option.getD_some]at h1 h2⊢;omega
structure Bs(n:Nat)(h:List Ob)(k0:Skt)where
 i:Nat
 le:i<=min n h.length
theorem xC1{P:Program}{E:Pn}{K:DS->Prop}{p:Prop}{r:Out}(hr:r.sat P E K)(hp:p:=by first|exact⟨rfl,by show _<y.k.ord.length;omega⟩|rfl|(simp only[MR.len,Ar];done)|(simp only[MR.len,Ar];omega)|exact Ew):(Out.need p r).sat P E K:=⟨hp,hr⟩
set_option maxHeartbeats 2000000 in
theorem qO0(a:List Ob)(n:Nat)(l:List Vl)(hs:Skc a l)(hn:n<=2000000):Fx 84 [hpD me a,.v (.int .i64 n),.sl false 7 l vlD vl0] (.v (.string (tK a n l))):=by
 have hc:=hs.cost;have hal:=hs.hn;have hb0:(0:Int)<=(n:Nat):=by omega
 have hN0:a.length<=1000000000:=by omega
 have v1:=yY1 (SkI.nil (n:Nat) a.length) hb0 hN0 hs.vc;have v2:=v1.len;have v3:(⟨[],[]⟩:Skt).out.length=0:=rfl;have hm2:min n a.length<=a.length:=Nat.min_le_right _ _;have hm1:((min n a.length:Nat):Int)<=(n:Nat):=by have:=Nat.min_le_left n a.length;omega
 have b1:=kV0 (e:=true) v1.inv hb0 hN0 hs.hc hm2;refine yF zJ Tryz.func84 rfl rfl rfl rfl rfl rfl ?_;intros;refine zK 100 ?_;refine zK 200 ?_;refine xJ 103 2 3 1 rfl rfl ?_;refine xJ 103 3 5 1 rfl rfl ?_;refine zN0 200 rfl ?_;refine zN0 201 rfl ?_;refine yK [1,2,3,7] [0] 212 [] [(103,.box 155 [.sl me 10 a obD ob0,.v (.int .i64 (n:Nat)),.mo 200 ((⟨[],[]⟩:Skt)).ord.length,.mo 201 ((⟨[],[]⟩:Skt)).out.length]),(200,.mrow 3 1 (.map ((⟨[],[]⟩:Skt)).ord iD 0)),(201,.mrow 5 1 (.map ((⟨[],[]⟩:Skt)).out u8D 0))] ?_;refine⟨⟨yG,⟨⟨rfl,u0 _,rfl,u0 _,rfl,Sub.mo (rfl),rfl,Sub.mo (rfl),rfl,trivial⟩,SubO.mp (rfl),SubO.mp (rfl),yE⟩,rfl,rfl⟩,?_⟩;refine zB (zE zJ [1016] 300 rfl ?_);refine zF ?_;refine yP _ _ (mU a (n:Nat) a.length ⟨[],[]⟩ l hb0 hN0 (SkI.nil _ _) hs.vc om hs.ln) rfl ?_;refine zF ?_;refine zC (zA (zB (zK 400 ?_)));refine zO ?_;refine yC (ι:=Bs n a (Skt.vs (n:Nat) ⟨[],[]⟩ l)) [1,3,7] [0] 450 (fun x=>[(8,.v (.int .i64 x.i))]) (fun x=>[(103,.box 155 [.sl me 10 a obD ob0,.v (.int .i64 (n:Nat)),.mo 200 (Skt.base (n:Nat) true a (Skt.vs (n:Nat) ⟨[],[]⟩ l) x.i).ord.length,.mo 201 (Skt.base (n:Nat) true a (Skt.vs (n:Nat) ⟨[],[]⟩ l) x.i).out.length]),(200,.mrow 3 1 (.map (Skt.base (n:Nat) true a (Skt.vs (n:Nat) ⟨[],[]⟩ l) x.i).ord iD 0)),(201,.mrow 5 1 (.map (Skt.base (n:Nat) true a (Skt.vs (n:Nat) ⟨[],[]⟩ l) x.i).out u8D 0))]) (fun x=>a.length-x.i) ⟨0,Ap _⟩ ?_;refine⟨⟨⟨u21 rfl,yG⟩,⟨⟨rfl,u0 _,rfl,u0 _,rfl,Sub.mo (rfl),rfl,Sub.mo (rfl),rfl,trivial⟩,SubO.mp (rfl),SubO.mp (rfl),yE⟩,rfl,rfl⟩,fun x=>?_⟩;have hk0:=x.le;refine zB (zK 500 ?_);refine zW rfl (fun c4=>?_) (fun c4=>?_)
 ·have hlt:x.i<n/\x.i<a.length:=by simpa using c4
  have b2:=kV0 (e:=true) v1.inv hb0 hN0 hs.hc (m:=x.i) om;have b3:=b2.len;have b4:=cOs_le (h:=a) (m:=x.i+1) om;rw[cOs_succ]at b4;refine zL (zA (zB (zO ?_)));refine zE zJ [1031] 700 rfl ?_;refine zF ?_;refine yP _ _ (tV0 a (n:Nat) (Skt.base (n:Nat) true a (Skt.vs (n:Nat) ⟨[],[]⟩ l) x.i) (x.i:Nat) true hb0 hN0 hs.hc om om b2.inv (by rw[Ah];omega)) rfl ?_;refine zF ?_;refine zC (zN (zA (yM zJ [] 800 ?_)));have hN:=xS0 (n:Nat) true a (Skt.vs (n:Nat) ⟨[],[]⟩ l) x.i;exact zS ⟨x.i+1,by omega⟩ ⟨⟨u21 (by push_cast;rfl),yG⟩,⟨⟨rfl,u0 _,rfl,u0 _,rfl,Sub.mo (congrArg (fun k:Skt=>k.ord.length) hN).symm,rfl,Sub.mo (congrArg (fun k:Skt=>k.out.length) hN).symm,rfl,trivial⟩,SubO.mp (congrArg (fun k:Skt=>D.pvss (k.ord.map iD)) hN).symm,SubO.mp (congrArg (fun k:Skt=>D.pvss (k.out.map u8D)) hN).symm,yE⟩,rfl,rfl⟩ (by show a.length-(x.i+1)<a.length-x.i;omega)
 ·have hke:x.i=min n a.length:=by have:=x.le;simp at c4;omega
  refine yD (yA (yB (zZ (zA (zB (zK 800 ?_))))));refine zO ?_;refine yC (ι:=Rn (n:Nat) true a (min n a.length) (cVs l) (Skt.run (n:Nat) true a a.length 0 (Skt.base (n:Nat) true a (Skt.vs (n:Nat) ⟨[],[]⟩ l) (min n a.length)))) [7] [] 850 (fun y=>[(9,.v (.int .i64 y.i))]) (fun y=>[(103,.box 155 [.sl me 10 a obD ob0,.v (.int .i64 (n:Nat)),.mo 200 (y.k).ord.length,.mo 201 (y.k).out.length]),(200,.mrow 3 1 (.map (y.k).ord iD 0)),(201,.mrow 5 1 (.map (y.k).out u8D 0))]) (fun y=>a.length-y.i) (Rn.start true (Skt.base (n:Nat) true a (Skt.vs (n:Nat) ⟨[],[]⟩ l) (min n a.length)) b1.inv (by have:=b1.len;omega)) ?_;refine⟨⟨⟨u21 rfl,yG⟩,⟨⟨rfl,u0 _,rfl,u0 _,rfl,Sub.mo (by rw[hke];rfl),rfl,Sub.mo (by rw[hke];rfl),rfl,trivial⟩,SubO.mp (by rw[hke];rfl),SubO.mp (by rw[hke];rfl),yE⟩,rfl,rfl⟩,fun y=>?_⟩;have yl:=y.inv.len hb0;have yo:=y.le;have yb:=y.bound hm1 hm2;refine zB (zK 900 ?_);refine zW rfl (fun c8=>?_) (fun c8=>?_)
  ·have hlt2:y.i<y.k.ord.length:=by simpa using c8
   have y1:=y.at hlt2;have y2:=y.cost hlt2 hm1 hm2;refine zL (zA (zB (zO ?_)));refine zE zJ [1049] 1100 rfl ?_;repeat(first|refine zH ?_|refine xC1 ?_)
   refine yP _ _ (tV0 a (n:Nat) y.k (y.k.ord.getD y.i 0) true hb0 hN0 hs.hc om y1.2 y.inv om) rfl ?_;repeat(first|refine zH ?_|refine xC1 ?_)
   refine zC (zN (zA (yM zJ [] 1200 ?_)));exact zS (y.next hlt2 hb0 hN0 hs.hc) ⟨⟨u21 (by show(y.i:Int)+1=((y.i+1:Nat):Int);push_cast;rfl),yG⟩,⟨⟨rfl,u0 _,rfl,u0 _,rfl,Sub.mo (rfl),rfl,Sub.mo (rfl),rfl,trivial⟩,SubO.mp (rfl),SubO.mp (rfl),yE⟩,rfl,rfl⟩ (by show a.length-(y.i+1)<a.length-y.i;omega)
  ·have hfe:=y.fin (by simpa using c8);refine yD (yA (yB (zZ (zA ?_))));refine jC 201 rfl (by repeat(first|exact trivial|exact rfl|refine⟨?_,?_⟩)) (by repeat(first|exact trivial|exact(fun _=>rfl)|exact(fun h=>absurd h (by decide))|exact rfl|refine⟨?_,?_⟩)) ?_;refine zB (zE zJ [] 1200 rfl ?_);repeat(first|refine zH ?_|refine zT (by first|rfl|exact(congrArg (List.map u8D) (gT _)).symm|exact Ew) ?_)
   refine zC (zA (zM ?_));exact u4 rfl (SubP.str (by unfold tK;exact(congrArg (fun l:List UInt8=>(⟨l.toArray⟩:ByteArray)) (gT _)).trans (congrArg (fun k:Skt=>(⟨k.out.toArray⟩:ByteArray)) hfe)))
variable{md me:Bool}
def plnD(l:List St)(s:St):D:= .agg (stsD l::stD s)
variable{md me:Bool}
def byV(t:ByteArray):Vl:=⟨5,false,[],false,[],t,0⟩
theorem SubP.ownRows{α:Type}{k sz:Nat}{rows:List (List D)}{l:List α}{f:α->List D}{e:α}(h:RowsP rows (l.map f)):SubP (.own k sz rows) (.sl false sz l f e):=fun w s v hv=>by
 have h1:=jI0 h hv;rw[yO,Cp]at h1;exact h1
def spV(s:St):List Vl:=nuV s.k::nuV s.c::byV s.s::s.v::s.w::s.l
def spW(s:St):List Vl:=nuV (s.l.length:Nat)::spV s
def pvS(L:List St):List Vl:=L.flatMap spW
structure StI(s:St):Prop where
 k1: -9223372036854775808<=s.k
 k2:s.k<=9223372036854775807
 c1: -9223372036854775808<=s.c
 c2:s.c<=9223372036854775807
 l:s.l.length<=1000000
theorem gJ0{s:St}(h:StI s):(spW s).length<=1000006:=by
 have:=h.l;show s.l.length+1+1+1+1+1+1<=_;omega
theorem cD0:∀{L:List St},(∀s∈L,StI s)->(pvS L).length<=L.length*1000006
 |[],_=>Ap _
 |s::L,h=>by
  have h1:=gJ0 (h s Bc);have h2:=cD0 (L:=L) fun x hx=>h x (Az _ hx);rw[pvS,List.flatMap_cons,Af,An];rw[pvS]at h2;omega
theorem mZ0{L:List St}{i:Nat}(h:i<L.length):pvS (L.take (i+1))=pvS (L.take i)++spW (L.getD i st0):=by
 rw[List.take_add_one,Ae h,Ac,Ae h,pvS,pvS,List.flatMap_append];simp
theorem st_at{L:List St}{i:Nat}(h:i<L.length)(hL:∀s∈L,StI s):StI (L.getD i st0):=by
 rw[Ac,Ae h];exact hL _ (Cv _)
noncomputable def tX0 (h a:List Ob) (l:List St) (s:St) (b:List Ob) (l':List St) (s':St):Bool:=(decide ((h.length:Int)<=(a.length:Int))&&decide ((l.length:Int)=(l'.length:Int)))&&decide (tK a h.length (pvS (s::l))=tK b h.length (pvS (s'::l')))
theorem vL1{P:Program}{E:Pn}{K:DS->Prop}{p:Prop}{r:Out}(hr:r.sat P E K)(hp:p:=by first|exact jE (by have:=hs.l;omega)|(simp only[Ar,An,Aw];have:=hs.l;omega)|exact Ew):(Out.need p r).sat P E K:=⟨hp,hr⟩
theorem StepValues_ok(s:St)(hs:StI s):Fx 136 [.agg (stD s)] (.sl false 7 (spV s) vlD vl0):=by
 refine yF zJ Tryz.func136 rfl rfl rfl rfl rfl rfl ?_;intros;refine zK 100 ?_;refine zB (zX zJ [16,19] [[],[0],[0,1],[],[3],(rgN 5),[],[6],[6,7],[],[9],[],[11],(rgN 13),[],[14],(rgN 16),(rgN 17)] 200 yT kr rfl ?_);repeat(first|refine zH ?_|refine vL1 ?_)
 refine zQ _ (N_ok s.k hs.k1 hs.k2) rfl ?_;repeat(first|refine zH ?_|refine vL1 ?_)
 refine zQ _ (N_ok s.c hs.c1 hs.c2) rfl ?_;repeat(first|refine zH ?_|refine vL1 ?_)
 refine zC (zA (zM ?_));exact u4 rfl (SubP.ownRows (by exact⟨SubPs.refl _,SubPs.refl _,⟨u6 _,u6 _,u12 rfl,u6 _,u12 rfl,u6 _,u6 _,trivial⟩,SubPs.refl _,SubPs.refl _,RowsP.refl _⟩))
theorem xB1{P:Program}{E:Pn}{K:DS->Prop}{p:Prop}{r:Out}(hr:r.sat P E K)(hp:p:=by first|(simp only[Ar,An,Aw];omega)|exact Ew):(Out.need p r).sat P E K:=⟨hp,hr⟩
theorem xA1{P:Program}{E:Pn}{K:DS->Prop}{p:Prop}{r:Out}(hr:r.sat P E K)(hp:p:=by first|(simp only[Af,Ar,An,Aw];have:(spV ((s::l).getD x.1 st0)).length+1=(spW ((s::l).getD x.1 st0)).length:=rfl;omega)|exact Ew):(Out.need p r).sat P E K:=⟨hp,hr⟩
theorem dA(l:List St)(s:St)(hl:l.length<=1000)(hs:∀t∈s::l,StI t):Fx 85 [plnD l s] (.sl false 7 (pvS (s::l)) vlD vl0):=by
 have hL:(s::l).length=l.length+1:=rfl;refine yF zJ Tryz.func85 rfl rfl rfl rfl rfl rfl ?_;intros;refine zK 100 ?_;refine zK 200 ?_;refine yZ 3 29 7 rfl ?_;refine zB ?_;refine zB (zE zJ [8,11] 300 rfl ?_);repeat(first|refine zH ?_|refine zT (by first|exact jE (by omega)|(simp only[Ar,An,Aw];omega)|exact Ew) ?_)
 refine zC (zA ?_);refine yK [3,12,13] [200] 310 [(11,.sl false 18 (s::l) stD st0)] [] ?_;refine⟨⟨⟨u5 rfl,yG⟩,yE,rfl,rfl⟩,?_⟩;refine zO ?_;refine yC (ι:={i:Nat//i<=(s::l).length}) [11,12] [] 350 (fun x=>[(13,.v (.int .i64 x.1)),(3,.own 200 7 ((pvS ((s::l).take x.1)).map vlD))]) (fun x=>[(200,.row 29 7 ((pvS ((s::l).take x.1)).map vlD).length)]) (fun x=>(s::l).length-x.1) ⟨0,Ap _⟩ ?_;refine⟨⟨yG,yE,rfl,rfl⟩,fun x=>?_⟩;have hk0:x.1<=(s::l).length:=x.2;refine zK 400 ?_;refine zB (zW rfl (fun c3=>?_) (fun c3=>?_))
 ·have hlt:x.1<(s::l).length:=by simp at c3⊢;omega
  have hsi:=st_at hlt hs;have hsl:=hsi.l;have hp1:=cD0 (L:=(s::l).take x.1) (fun t ht=>hs t (Cn ht));rw[At]at hp1;have hp2:min x.1 (s::l).length<=1000:=by omega
  have hp3:=gJ0 hsi;refine zL (zA (zB (zO (zK 500 ?_))));refine yK [3,5,11,12,13] [200,402] 510 [] [(402,.box 34 (stD ((s::l).getD x.1 st0)))] ?_;refine⟨⟨yG,⟨⟨rfl,SubL.same rfl⟩,yE⟩,rfl,rfl⟩,?_⟩;refine zB (zE zJ [] 600 rfl ?_);repeat(first|refine zH ?_|refine xB1 ?_)
  refine zQ _ (N_ok (((s::l).getD x.1 st0).l.length:Nat) om om) rfl ?_;repeat(first|refine zH ?_|refine xB1 ?_)
  refine zC (zA ?_);refine zE zJ [] 700 rfl ?_;repeat(first|refine zH ?_|refine xA1 ?_)
  refine zQ _ (StepValues_ok ((s::l).getD x.1 st0) hsi) rfl ?_;repeat(first|refine zH ?_|refine xA1 ?_)
  refine zC (zN (zA (yM zJ [] 800 ?_)));exact zS ⟨x.1+1,by omega⟩ ⟨⟨u21 (by push_cast;rfl),Sub.own (by rw[mZ0 hlt,Ad,Cr];rfl),yG⟩,⟨⟨rfl,rfl,by rw[mZ0 hlt];simp only[Af,Ar,An,Aw];have:(spW ((s::l).getD x.1 st0)).length=(spV ((s::l).getD x.1 st0)).length+1:=rfl;omega⟩,yE⟩,rfl,rfl⟩ (by show(s::l).length-(x.1+1)<(s::l).length-x.1;omega)
 ·have hke:x.1=(s::l).length:=by simp at c3;omega
  refine yD (yA (yB (zZ (zA (zK 900 ?_)))));refine zM ?_;exact u4 rfl (SubP.ownSl (by rw[Ak om]))
theorem SameEffect_ok(h a:List Ob)(l:List St)(s:St)(b:List Ob)(l':List St)(s':St)(hh:h.length<=2000000)(hl:l.length<=1000)(hl':l'.length<=1000)(hs:∀t∈s::l,StI t)(hs':∀t∈s'::l',StI t)(ha:Skc a (pvS (s::l)))(hb:Skc b (pvS (s'::l'))):Fx 40 [hpD md h,hpD me a,plnD l s,hpD me b,plnD l' s'] (.v (.bool (tX0 h a l s b l' s'))):=by
 refine yF zJ Tryz.func40 rfl rfl rfl rfl rfl rfl ?_;intros;refine zK 100 ?_;refine zK 200 ?_;refine zB (zX zJ [] [[],[0],[0,1],[],[0,1,2,3],(rgN 5),(rgN 6),(rgN 7),(rgN 8),(rgN 6),[0,1,2,3,4,5,9],[0,1,2,3,4,5,9,10],(rgN 12),(rgN 13),(rgN 14),(rgN 15),(rgN 15),(rgN 15),[0,1,2,3,4,5,6,7,8,9,10,11,12,13,14,17],(rgN 19),(rgN 15),(rgN 15),(rgN 15),[0,1,2,3,4,5,6,7,8,9,10,11,12,13,14,15,16,17,18,19,22],(rgN 24),(rgN 25),(rgN 26),(rgN 27)] 300 yT kr rfl ?_);refine zF ?_;refine yN _ (fun hg18=>dA l s hl hs) rfl ?_;refine zF ?_;refine yN _ (fun hg19=>qO0 a h.length _ ha hh) rfl ?_;refine zF ?_;refine yN _ (fun hg23=>dA l' s' hl' hs') rfl ?_;refine zF ?_;refine yN _ (fun hg24=>qO0 b h.length _ hb hh) rfl ?_;refine zf (zA (zM ?_));exact u4 rfl (u7 (by unfold tX0;simp[Bool.and_assoc]))
theorem vO(h a:List Ob)(s:St)(b:List Ob)(s':St)(hh:h.length<=2000000)(hs:StI s)(hs':StI s')(ha:Skc a (pvS [s]))(hb:Skc b (pvS [s'])):Fx 8 [hpD md h,hpD me a,.agg (stD s),hpD me b,.agg (stD s')] (.v (.bool (tX0 h a [] s b [] s'))):=by
 refine yF zJ Tryz.func8 rfl rfl rfl rfl rfl rfl ?_;intros;refine zK 100 ?_;refine zB (zE zJ [] 200 rfl ?_);refine zF ?_;refine zQ _ ((SameEffect_ok h a [] s b [] s' hh de de (fun t ht=>by rw[Bv.1 ht];exact hs) (fun t ht=>by rw[Bv.1 ht];exact hs') ha hb).args ⟨u6 _,u6 _,u20 ⟨u12 rfl,SubPs.refl _⟩,u6 _,u20 ⟨u12 rfl,SubPs.refl _⟩,trivial⟩) rfl ?_;refine zf (zA (zM ?_));exact u4 rfl (u6 _)
theorem cE{v:Vl}(h:qB v=true):v.nl.length<=128/\v.dl.length<=128/\v.s.size<=4000:=by
 have hz:∀{b:Bool}{l:List Nat},zI b l=true->l.length<=128:=fun h=>by rw[zI,gN0]at h;rw[h.2];decide
 have hi:∀{b:Bool}{l:List Nat},uK b l=true->l.length<=128:=fun h=>by
  simp only[uK,Aj,Ao]at h;exact h.1
 have he:∀{s:ByteArray},emS s=true->s.size<=4000:=fun h=>by
  have:=Ag h;subst this;decide
 unfold qB at h;repeat' split at h
 all_goals (try simp only[Aj,Ao]at h)
 ·exact⟨hz h.1.1.1,hz h.1.1.2,he h.1.2⟩
 ·exact⟨hz h.1.1.1,hz h.1.1.2,he h.1.2⟩
 ·exact⟨hi h.1.1.1,hz h.1.1.2,he h.1.2⟩
 ·have hr:=h.1.1.1;simp only[ratS,Aj]at hr;exact⟨hi hr.1.1.1,hi hr.1.1.2,he h.1.2⟩
 ·exact⟨hz h.1.1.1.1,hz h.1.1.1.2,by have:=h.2;omega⟩
 ·exact⟨hz h.1.1.1,hz h.1.1.2,by have:=h.2;omega⟩
 ·have hd:=h.2;simp only[dotS,Aj,Ao]at hd;exact⟨hz h.1.1.1,hz h.1.1.2,by have:=hd.2;omega⟩
 ·exact⟨hz h.1.1,hz h.1.2,he h.2⟩
 ·cases h
theorem mB0{v:Vl}(h:qB v=true):cV v<=2108+10*v.s.size:=by
 have:=cE h;unfold cV;omega
theorem zN1(o:Ob)(v:Vl):cV (fixV o v)=cV v/\(fixV o v).s=v.s:=by
 unfold fixV;split<;>exact⟨rfl,rfl⟩
theorem yK1:∀{l:List Vl},(∀v∈l,cV v<=2108+10*v.s.size)->cVs l<=2108*l.length+10*(l.map fun v=>v.s.size).sum+1
 |[],_=>Aq _
 |v::l,h=>by
  have h1:=h v Bc;have h2:=yK1 (l:=l) fun x hx=>h x (Az _ hx);unfold cVs at h2⊢;rw[By,Cw,By,Cw,An];omega
theorem kO(f:Nat->Nat):∀n,sumN f n=((List.range n).map f).sum
 |0=>rfl
 |n+1=>by rw[sumN,kO f n,List.range_succ,Ad,Ed,En,Eo]
theorem dQ{α:Type}(g:α->Nat)(d:α):∀l:List α,((List.range l.length).map fun j=>g (l.getD j d)).sum=(l.map g).sum
 |[]=>rfl
 |x::l=>by
  rw[An,List.range_succ_eq_map,By,Cw,Cp,By,Cw,<-dQ g d l];rfl
theorem bytO_eq(o:Ob):bytO o (kvs o).length=((kvs o).map fun v=>v.s.size).sum:=by
 rw[bytO,kO];exact dQ (fun v:Vl=>v.s.size) vl0 (kvs o)
theorem jW1:∀{l seen:List ByteArray},nmF seen l=0->∀s∈l,wG s=true
 |[],_,_,_,h=>by cases h
 |x::l,seen,h,s,hs=>by
  rw[nmF]at h;split at h
  ·cases h
  ·rename_i h1;split at h
   ·cases h
   ·rcases Bl.1 hs with rfl|hs
    ·simpa using h1
    ·exact jW1 h s hs
theorem zD0{s:ByteArray}(h:wG s=true):s.size<=24:=by
 simp only[wG,Aj,Bo,De,Ay]at h;have:=h.1.2;omega
theorem wJ0:∀{l:List ByteArray},(∀s∈l,s.size<=24)->(l.map fun s=>s.size+1).sum<=25*l.length
 |[],_=>Aq _
 |s::l,h=>by
  have h1:=h s Bc;have h2:=wJ0 (l:=l) fun x hx=>h x (Az _ hx);rw[By,Cw,An];omega
theorem wK0{o:Ob}(hs:jB o=0)(hz:uL o=0):o.name.size<=60:=by
 by_cases hc:Lib.contains (jS o.kind).data.toList [110]=true
 ·unfold uL at hz;rw[hc,Ds]at hz;split at hz
  ·cases hz
  ·rename_i h1;have h1:gX o=true:=by simpa using h1
   unfold gX at h1;split at h1
   ·simp only[dotS,Aj,Ao]at h1;have:=h1.2;omega
   ·have:=zD0 h1;omega
 ·unfold jB at hs;split at hs
  ·rename_i h1;have h2:=Be.1 h1 0 de;have e:(lettersB.extract ((0:Nat):Int).toNat (((0:Nat):Int)+1).toNat).data.toList=[110]:=by decide+kernel
   unfold ltP at h2;rw[e]at h2;have hc:Lib.contains (jS o.kind).data.toList [110]=false:=by simpa using hc
   rw[hc]at h2;have h3:decide (o.name=⟨#[]⟩)=true:=by simpa[pW]using h2
   have:=Ag h3;rw[this];decide
  ·cases hs
theorem sizes_le{o:Ob}(hz:uL o=0):o.names.length<=200/\o.items.length<=1000/\o.keys.length<=1000/\o.refs.length<=1000:=by
 unfold uL at hz;split at hz
 ·cases hz
 ·split at hz
  ·cases hz
  ·rename_i h2;simp only[Cl,Ao,not_or]at h2;obtain⟨h3,h4⟩:=h2;unfold mx3 at h3;repeat' split at h3
   all_goals omega
theorem order_le{h:List Ob}{o:Ob}{i:Int}(hs:jB o=0)(ho:jJ h o i=true):o.order.length<=40:=by
 by_cases hk:o.kind=9
 ·unfold jJ at ho;rw[Aa (fun hh=>hh hk)]at ho;simp only[Aj,Ao]at ho;rw[ho.2,Af];have:(vT (tI h o)).1.length<=39:=by
   unfold vT;repeat' split
   ·exact Ap _
   ·exact Ap _
   ·exact Ap _
   ·show(mgS (tI h o)).1.length<=39;omega
  show 1+_<=_;omega
 ·rw[(vR0 hs).2.2.2.2 hk];exact Ap _
theorem cO_hi{h:List Ob}{o:Ob}{i:Nat}(g:Uho h o i):cO o<=6704+2108*(o.items.length+o.keys.length+o.refs.length)+10*((kvs o).map fun v=>v.s.size).sum:=by
 have v:=kZ g.vals;have h1:=wK0 g.shape g.sizes;have h2:=sizes_le g.sizes;have h3:=order_le g.shape g.order;have h4:=wJ0 fun s hs=>zD0 (jW1 g.names s hs);have hv:∀x∈o.keys++o.items,cV x<=2108+10*x.s.size:=fun x hx=>by
  have e:=zN1 o x;have:=mB0 (v.ok x hx);rw[e.1,e.2]at this;exact this
 have h5:=yK1 (l:=o.keys) fun x hx=>hv x (As.2 (.inl hx));have h6:=yK1 (l:=o.items) fun x hx=>hv x (As.2 (.inr hx));have h7:((kvs o).map fun v=>v.s.size).sum=(o.items.map fun v=>v.s.size).sum+(o.keys.map fun v=>v.s.size).sum:=by
  rw[kvs,Ad,Ed]
 have hc:cO o=120+10*o.name.size+(o.names.map fun s=>s.size+1).sum+23*o.refs.length+23*o.order.length+cVs o.keys+cVs o.items:=rfl;rw[hc,h7];omega
theorem bg_ok:(List.range 49).all (fun i=>decide (cO (bgO i)<=6704)&&(((bgO i).refs.all fun n=>decide (0<=n)&&decide (n<49))&&((bgO i).order.all fun n=>decide (0<=n)&&decide (n<49))))=true:=by decide+kernel
theorem yL1{i:Nat}(hi:i<49):cO (bgO i)<=6704/\(∀n∈(bgO i).refs,0<=n/\n<49)/\∀n∈(bgO i).order,0<=n/\n<49:=by
 have h:=Be.1 bg_ok i (Ct.2 hi);simp only[Aj,Ao,Be]at h;exact⟨h.1,h.2.1,h.2.2⟩
theorem wD0(h:List Ob)(i:Nat):yI h (i:Nat)=h.getD i ob0:=by
 show h.getD ((i:Nat):Int).toNat ob0=_;rw[Ah]
theorem kD{h:List Ob}{n:Int}(hn:yU h n=true):0<=n/\n<(h.length:Int):=by
 have:=gA hn;omega
theorem jC1{h:List Ob}(g:Uh h)(hh:HpIn h){i:Nat}(hi:i<h.length):ObC h.length (yI h i):=by
 have hin:=hh.at (i:Nat);have hlo:=g.lo;by_cases h49:i<49
 ·have e:=g.lo_at h49;have hb:=yL1 h49;rw[e]at hin⊢;exact⟨hin,fun hk=>absurd hk (by show ¬(9:Int)=18;decide),fun hk=>absurd hk (by show ¬((9:Int)=10\/(9:Int)=7);decide),fun n hn=>by have:=hb.2.1 n hn;omega,fun n hn=>by have:=hb.2.2 n hn;omega,(fun v hv=>by cases hv),(fun v hv=>by cases hv)⟩
 ·have u:=g.hi_at om hi;have v:=kZ u.vals;refine⟨hin,fun hk=>?_,fun _=>(kD v.cls).2,fun n hn=>kD (v.refs n hn),fun n hn=>kD (v.order n hn),fun x hx=>⟨hin.kv x hx,fun hk=>(kD (v.vals x (As.2 (.inl hx)) hk)).2⟩,fun x hx=>⟨hin.iv x hx,fun hk=>(kD (v.vals x (As.2 (.inr hx)) hk)).2⟩⟩;have hst:=(vR0 u.shape).2.2.1;by_cases h0:(yI h i).state=0
  ·omega
  ·have h1:=v.weak hk h0;rw[cC om hin.st.2]at h1;exact(kD h1).2
theorem mem_obAt{h:List Ob}{o:Ob}(ho:o∈h):∃i,i<h.length/\o=yI h (i:Nat):=by
 obtain⟨i,hi,e⟩:=List.getElem_of_mem ho;exact⟨i,hi,by rw[wD0,Ac,Ae hi,<-e];rfl⟩
theorem tA0{h:List Ob}(g:Uh h)(hh:HpIn h):HpC h:=fun o ho=>by
 obtain⟨i,hi,rfl⟩:=mem_obAt ho;exact jC1 g hh hi
theorem xQ0(h:List Ob):cH h=(h.map cO).sum:=dQ cO ob0 h
theorem pr_sums{h:List Ob}(hp:(qJ h).1=0):sumN (nodN h) h.length<=20000/\sumN (bytN h) h.length<=200000:=by
 have g:=vI1 hp;have hhi:=gN1 hp;unfold qJ at hp;rw[Aa om,Aa (by have:=g.lo;omega)]at hp;have hn:(List.range h.length).find? (fun i=> !decide (uY h i=0))=none:=by
  rw[List.find?_range_eq_none];intro i hi;simp[g.code i hi]
 rw[hn]at hp
 dsimp only at hp
 split at hp
 ·cases hp
 ·omega
theorem tO0{f a b:Nat->Nat}{c:Nat}:∀{n:Nat},(∀i,i<n->f i<=c+2108*a i+10*b i)->((List.range n).map f).sum<=c*n+2108*((List.range n).map a).sum+10*((List.range n).map b).sum
 |0,_=>Ap _
 |n+1,h=>by
  have h1:=tO0 (n:=n) fun i hi=>h i om;have h2:=h n om;rw[List.range_succ,Ad,Ed,Ad,Ed,Ad,Ed,En,En,En,Eo,Eo,Eo,Nat.mul_succ];omega
theorem uh_cost{h:List Ob}(hp:(qJ h).1=0):cH h<=80000000:=by
 have g:=vI1 hp;have hs:=pr_sums hp;rw[kO,kO]at hs;have h1:cH h<=6704*h.length+2108*((List.range h.length).map (nodN h)).sum+10*((List.range h.length).map (bytN h)).sum:=by
  refine tO0 fun i hi=>?_;rw[<-wD0];by_cases h49:i<49
  ·have hb:=(yL1 h49).1;rw[g.lo_at h49];omega
  ·have hc:=cO_hi (g.hi_at om hi);have e1:nodN h i=(yI h i).items.length+(yI h i).keys.length+(yI h i).refs.length:=Aa om;have e2:bytN h i=bytO (yI h i) (kvs (yI h i)).length:=Aa om;rw[e1,e2,bytO_eq];exact hc
 have:=gN1 hp;omega
theorem cH_app(h:List Ob)(o:Ob):cH (h++[o])=cH h+cO o:=by
 rw[xQ0,xQ0,Ad,Ed,En,Eo]
theorem mem_cO{h:List Ob}{o:Ob}(ho:o∈h):cO o<=cH h:=by
 rw[xQ0];induction h with
 |nil=>cases ho
 |cons x h ih=>
  rw[By,Cw];rcases Bl.1 ho with rfl|ho
  ·omega
  ·have:=ih ho;omega
theorem cS0{n:Int}(h0: -9223372036854775808<=n)(h1:n<=9223372036854775807):VlIn (nuV n)/\(nuV n).nl.length<=2:=by
 have hl:(nuV n).nl.length<=2:=qF (k:=2) (by show n.natAbs<_;omega);exact⟨⟨(by decide:(-9223372036854775808:Int)<=2),(by decide:(2:Int)<=9223372036854775807),(by decide:(-9223372036854775808:Int)<=0),(by decide:(0:Int)<=9223372036854775807),yX _,(fun _ h=>by cases h),by omega,(by decide:0<=2000000),(by decide:ByteArray.empty.size<=2000000)⟩,hl⟩
theorem cT0{n:Int}(h0: -9223372036854775808<=n)(h1:n<=9223372036854775807):cV (nuV n)<=76:=by
 have h:=(cS0 h0 h1).2;have e:cV (nuV n)=60+10*0+8*(nuV n).nl.length+8*0:=rfl;omega
theorem qQ1{N:Nat}{n:Int}(h0: -9223372036854775808<=n)(h1:n<=9223372036854775807):VlC N (nuV n):=⟨(cS0 h0 h1).1,fun hk=>absurd hk (by show ¬(2:Int)=6;decide)⟩
theorem byV_C{N:Nat}{t:ByteArray}(ht:t.size<=2000000):VlC N (byV t):=⟨⟨(by decide:(-9223372036854775808:Int)<=5),(by decide:(5:Int)<=9223372036854775807),(by decide:(-9223372036854775808:Int)<=0),(by decide:(0:Int)<=9223372036854775807),(fun _ h=>by cases h),(fun _ h=>by cases h),(by decide:0<=2000000),(by decide:0<=2000000),ht⟩,fun hk=>absurd hk (by show ¬(5:Int)=6;decide)⟩
theorem vJ0(N:Nat):VlC N vl0:=⟨bX0,fun hk=>absurd hk (by show ¬(0:Int)=6;decide)⟩
theorem gV1{v:Vl}(h:VlIn v):cV v<=52000060:=by
 have:=h.s;have:=h.nn;have:=h.dn;unfold cV;omega
structure StC(N:Nat)(s:St):Prop where
 i:StI s
 t:s.s.size<=2000000
 v:VlC N s.v
 w:VlC N s.w
 l:∀x∈s.l,VlC N x
 cl:cVs s.l<=300000000
theorem spW_C{N:Nat}{s:St}(h:StC N s):(∀x∈spW s,VlC N x)/\(∀x∈spW s,True)/\cVs (spW s)<=450000000:=by
 have h1:=qQ1 (N:=N) h.i.k1 h.i.k2;have h2:=qQ1 (N:=N) h.i.c1 h.i.c2;have hl:=h.i.l;have h3:=qQ1 (N:=N) (n:=(s.l.length:Nat)) om om;refine⟨fun x hx=>?_,fun _ _=>trivial,?_⟩
 ·unfold spW spV at hx;simp only[Bl]at hx;rcases hx with rfl|rfl|rfl|rfl|rfl|rfl|hx
  ·exact h3
  ·exact h1
  ·exact h2
  ·exact byV_C h.t
  ·exact h.v
  ·exact h.w
  ·exact h.l x hx
 ·have c1:=cT0 h.i.k1 h.i.k2;have c2:=cT0 h.i.c1 h.i.c2;have c3:=cT0 (n:=(s.l.length:Nat)) om om;have c4:cV (byV s.s)=60+10*s.s.size+8*0+8*0:=rfl;have c5:=gV1 h.v.vin;have c6:=gV1 h.w.vin;have ht:=h.t;have c7:=h.cl;unfold cVs at c7⊢;unfold spW spV;simp only[By,Cw];omega
theorem mN0{h:List Ob}{s:St}(hc:HpC h)(hn:h.length<=2000000)(hs:StC h.length s)(hq:cH h<=600000000):Skc h (pvS [s]):=by
 obtain⟨h1,_,h3⟩:=spW_C hs;have e:pvS [s]=spW s:=by simp[pvS]
 have hl:=gJ0 hs.i;exact⟨hc,hn,by rw[e];exact h1,by rw[e];omega,by rw[e];omega⟩
theorem dN{h a:List Ob}{l:List St}{s:St}(hl:h.length<=a.length):tX0 h a l s a l s=true:=by
 unfold tX0;have:(h.length:Int)<=(a.length:Int):=by omega
 simp[this]
def Gv(h:List Ob)(v:Vl):Prop:=qB v=true/\VlC h.length v
theorem has_gv{h:List Ob}{v:Vl}(hi:VlIn v)(hh:uB h v=true):Gv h v:=by
 refine⟨?_,hi,fun hk=>(kD (uF hh hk)).2⟩;simp only[uB,Aj]at hh;exact hh.1
theorem obj_C{h:List Ob}(hc:HpC h){v:Vl}(hk:(zU h v).kind≠0):ObC h.length (zU h v)/\cO (zU h v)<=cH h:=by
 obtain⟨h6,ho,e⟩:=jV (h:=h) (v:=v) hk;rw[e];have hl:=(yR ho).2;have hm:yI h v.r∈h:=by
  show h.getD v.r.toNat ob0∈h;rw[Ac,Ae hl];exact Cv _
 exact⟨hc _ hm,mem_cO hm⟩
theorem bG0{N:Nat}{v:Vl}(hv:VlC N v):StC N (vlS v):=⟨⟨(by decide:(-9223372036854775808:Int)<=0),(by decide:(0:Int)<=9223372036854775807),(by decide:(-9223372036854775808:Int)<=0),(by decide:(0:Int)<=9223372036854775807),(by decide:0<=1000000)⟩,(by decide:ByteArray.empty.size<=2000000),hv,vJ0 N,(fun _ h=>by cases h),(by decide:cVs []<=300000000)⟩
def Gc(h:List Ob)(v:Vl):Prop:=VlC h.length v/\cV v<=43000
theorem gc_0(h:List Ob):Gc h vl0:=⟨vJ0 _,by show 60<=43000;omega⟩
theorem gv_gc{h:List Ob}{v:Vl}(hv:Gv h v):Gc h v:=⟨hv.2,by
 have h1:=mB0 hv.1;have h2:=(cE hv.1).2.2;omega⟩
theorem pV0{h:List Ob}(g:Uh h)(hh:HpIn h){n:Int}(hn:inH h n):∀x∈(yI h n).items,Gc h x:=fun x hx=>by
 have hC:=jC1 g hh (i:=n.toNat) hn.2;rw[<-xW hn]at hC;refine⟨hC.items x hx,?_⟩;by_cases h49:n.toNat<49
 ·rw[show yI h n=bgO n.toNat from g.lo_at h49]at hx
  cases hx
 ·have u:=g.hi_at om hn.2;rw[<-xW hn]at u;have hok:=(kZ u.vals).ok x (As.2 (.inr hx));have e:=zN1 (yI h n) x;have h1:=mB0 hok;have h2:=(cE hok).2.2;rw[e.1,e.2]at h1;rw[e.2]at h2;omega
theorem kA0{h:List Ob}{l:List Vl}(hl:∀x∈l,Gc h x)(k:Nat):Gc h (l.getD k vl0):=by
 rw[Ac]
 cases hq:l[k]? with
 |none=>exact gc_0 h
 |some v=>exact hl v (Bi hq)
theorem uM1{h:List Ob}(g:Uh h)(hh:HpIn h)(v:Vl):∀x∈(zU h v).items,Gc h x:=fun x hx=>by
 by_cases hk:v.k=6/\yU h v.r=true
 ·rw[show zU h v=yI h v.r from Ab hk]at hx;exact pV0 g hh (yR hk.2) x hx
 ·rw[show zU h v=ob0 from Aa hk]at hx
  cases hx
theorem gc_own{h:List Ob}{o:Ob}(hl:∀x∈o.items,Gc h x)(s:ByteArray):Gc h (ownV o s):=by
 unfold ownV;split
 ·exact gc_0 h
 ·exact kA0 hl _
theorem gc_fd{h:List Ob}(g:Uh h)(hh:HpIn h){L:List Int}(hL:∀r∈L,inH h r)(s:ByteArray):Gc h (fdV h s (fdO h L s)):=by
 cases hf:fdO h L s with
 |none=>exact gc_0 h
 |some r=>exact gc_own (pV0 g hh (hL r (List.mem_of_find?_eq_some hf))) s
theorem gc_rf{h:List Ob}{n:Int}(hn:inH h n)(hl:h.length<=5000000):Gc h (rfV n):=by
 obtain⟨m,rfl⟩:∃m:Nat,n=(m:Nat):=⟨n.toNat,by have:=hn.1;omega⟩;have h2:m<h.length:=by have:=hn.2;simpa using this
 exact⟨⟨⟨(by decide:(-9223372036854775808:Int)<=6),(by decide:(6:Int)<=9223372036854775807),(by show-9223372036854775808<=(m:Int);omega),(by show(m:Int)<=9223372036854775807;omega),(fun _ h=>by cases h),(fun _ h=>by cases h),(by decide:0<=2000000),(by decide:0<=2000000),(by decide:ByteArray.empty.size<=2000000)⟩,fun _=>by show(m:Int)<h.length;omega⟩,by show 60<=43000;omega⟩
theorem gc_sp{h:List Ob}(g:Uh h)(hh:HpIn h){v:Vl}(hv:Gc h v)(s:ByteArray):Gc h (spS h v s).1/\(∀x∈(spS h v s).2.1,Gc h x)/\(spS h v s).2.1.length<=1:=by
 have hn:∀x∈([]:List Vl),Gc h x:=fun _ hx=>by cases hx
 unfold spS;split
 ·exact⟨gc_0 h,hn,Ap _⟩
 ·rename_i hk;have hin:=uA0 g (v:=v) (Classical.not_not.1 hk);have hf:=gc_fd g hh (L:=(yI h (zU h v).cls).order) (fun r hr=>((dJ0 hh g hin).2 r hr).1) s;split
  ·exact⟨gc_0 h,hn,Ap _⟩
  ·split
   ·exact⟨hf,fun x hx=>by rw[Bv.1 hx];exact hv,Aq _⟩
   ·split
    ·exact⟨kA0 (uM1 g hh _) 0,hn,Ap _⟩
    ·split
     ·exact⟨kA0 (uM1 g hh _) 0,fun x hx=>by rw[Bv.1 hx];exact gc_rf hin (by have:=g.hi;omega),Aq _⟩
     ·exact⟨hf,hn,Ap _⟩
theorem cVs_gc{h:List Ob}{l:List Vl}(hl:∀x∈l,Gc h x):cVs l<=43000*l.length+1:=by
 induction l with
 |nil=>exact Aq _
 |cons v l ih=>
  have h1:=(hl v Bc).2;have h2:=ih fun x hx=>hl x (Az _ hx);unfold cVs at h2⊢;rw[By,Cw,An,Nat.mul_succ];omega
theorem jK1{h:List Ob}{f:Vl}{l:List Vl}(hf:Gc h f)(hl:∀x∈l,Gc h x)(h9:l.length<=1000):StC h.length (caS f l):=by
 have hc:=cVs_gc hl;exact⟨⟨(by decide:(-9223372036854775808:Int)<=2),(by decide:(2:Int)<=9223372036854775807),(by decide:(-9223372036854775808:Int)<=0),(by decide:(0:Int)<=9223372036854775807),(by show l.length<=1000000;omega)⟩,(by show ByteArray.empty.size<=2000000;decide),vJ0 _,hf.1,fun x hx=>(hl x hx).1,by
  show cVs l<=300000000;have:43000*l.length<=43000*1000:=Cx _ h9;omega⟩
section
variable{h:List Ob}(g:Uh h)(hh:HpIn h)(hp:(qJ h).1=0)
include g hh hp
end
theorem nm_sz{h:List Ob}(g:Uh h){n:Int}(hn:inH h n):(yI h n).name.size<=700:=by
 by_cases h49:n.toNat<49
 ·rw[show yI h n=bgO n.toNat from g.lo_at h49];have h1:=(yL1 h49).1;have h2:cO (bgO n.toNat)=120+10*(bgO n.toNat).name.size+((bgO n.toNat).names.map fun s=>s.size+1).sum+23*(bgO n.toNat).refs.length+23*(bgO n.toNat).order.length+cVs (bgO n.toNat).keys+cVs (bgO n.toNat).items:=rfl;omega
 ·have u:=g.hi_at (i:=n.toNat) om hn.2;rw[<-xW hn]at u;have:=wK0 u.shape u.sizes;omega
theorem tx_C{N:Nat}{s:ByteArray}(hs:s.size<=2000000):VlC N (txV s):=⟨⟨(by decide:(-9223372036854775808:Int)<=4),(by decide:(4:Int)<=9223372036854775807),(by decide:(-9223372036854775808:Int)<=0),(by decide:(0:Int)<=9223372036854775807),(fun _ h=>by cases h),(fun _ h=>by cases h),(by decide:0<=2000000),(by decide:0<=2000000),hs⟩,fun hk=>absurd hk (by show ¬(4:Int)=6;decide)⟩
section
variable{h:List Ob}(g:Uh h)(hh:HpIn h)(hp:(qJ h).1=0)
include g hh hp
end
variable{md me:Bool}
theorem ob_keys(o:Ob)(k:Nat)(l:List Vl):D.pvs ((obD o).take 7++[.own k 7 (l.map vlD)]++(obD o).drop 8)=D.pvs (obD {o with keys:=l}):=by
 show D.pvs [_,_,_,_,_,_,_,D.own k 7 (l.map vlD),_,_]=D.pvs [_,_,_,_,_,_,_,D.sl false 7 l vlD vl0,_,_];simp only[D.pvs,D.pv,yO,Cp];rfl
def incR(h:List Ob)(d k:Vl):St:=if ¬(keyR h k).k=0 then keyR h k else if 0<=plI h (zU h d).keys k then st0 else if((zU h d).keys.length:Int)=1000 then raS 42 tooB else st0
def incH(h:List Ob)(d k:Vl):List Ob:=if ¬(keyR h k).k=0 then h else if 0<=plI h (zU h d).keys k then h else if((zU h d).keys.length:Int)=1000 then h else h.set d.r.toNat {zU h d with keys:=(zU h d).keys++[k]}
theorem wI1{h:List Ob}(g:Uh h){k:Vl}(hv:Vd h k)(hk:(keyR h k).k=0):uE h k=true/\keyR h k=st0:=by
 rcases zG0 g hv with hc|hc|hc
 ·rw[hc.2.2.2.2.2]at hk;exact absurd hk (by show ¬(1:Int)=0;decide)
 ·rw[hc.2.2.2]at hk;exact absurd hk (by show ¬(1:Int)=0;decide)
 ·exact⟨hc.2.2.2.2.1,hc.2.2.2.2.2⟩
theorem uD1{h:List Ob}(g:Uh h){k:Vl}(hv:Vd h k):(keyR h k).k=0\/(keyR h k).k=1:=by
 rcases zG0 g hv with hc|hc|hc
 ·rw[hc.2.2.2.2.2];exact .inr rfl
 ·rw[hc.2.2.2];exact .inr rfl
 ·rw[hc.2.2.2.2.2];exact .inl rfl
theorem uE1{h:List Ob}{k:Vl}(hk:uE h k=true)(hv:Vd h k):Kd h [k]:=⟨fun x hx=>by rw[Bv.1 hx];exact hk,fun x hx=>by rw[Bv.1 hx];exact hv,fun i j hi hj hne=>by
 simp only[Cg]at hi hj;omega⟩
theorem mix_one{h:List Ob}{a:List Vl}{k:Vl}:(0<=plI h a k->mixS h 15 a [k]=a)/\(plI h a k<0->mixS h 15 a [k]=a++[k]):=by
 have e:a.filter (mdP h 15 [k])=a:=List.filter_eq_self.2 fun x _=>rfl;refine⟨fun h0=>?_,fun h0=>?_⟩
 ·rw[mixS,e,Eb,Aa (by show ¬(true&&decide (plI h a k<0))=true;rw[Ca om];decide)];simp
 ·rw[mixS,e,Eb,Ab (by show(true&&decide (plI h a k<0))=true;rw[Bh h0];rfl)];rfl
theorem set_same'{h:List Ob}{n:Nat}(hn:n<h.length):h.set n (h.getD n ob0)=h:=by
 apply List.ext_getElem?;intro j;rw[List.getElem?_set];split
 ·rename_i e;subst e;rw[Ac,Ae hn];rfl
 ·rfl
set_option maxHeartbeats 1000000 in
theorem opInclude_G(h:List Ob)(d k:Vl)(hh:HpIn h)(g:Uh h)(hd:d.k=6->yU h d.r=true)(hk:(zU h d).kind=4)(hv:Vd h k):FnG Tryz.prog 16 [.bp 0 0,.agg (vlD d),.agg (vlD k)] (hpO h) (.agg (stD (incR h d k))) (hpO (incH h d k)):=by
 have ho:=pR0 (h:=h) (v:=d) om;have hvl:=gA ho.2;have eo:zU h d=h.getD d.r.toNat ob0:=xV hd ho.1;have ka:=gI1 g hd om;have la:=kA g d;have hhl:=hh.len;have h01:=uD1 g hv;refine jY zJ Tryz.func16 rfl rfl rfl rfl rfl rfl rfl ?_;intros;refine zK 100 ?_;refine zB ?_;refine zB (zX zJ [] mK8 200 yT kr rfl ?_);refine zF ?_;refine qC _ (opKey_ok h k hh g hv) rfl rfl ?_;refine zF ?_;refine zC (zA (zK 300 ?_));refine zW rfl (fun c2=>?_) (fun c2=>?_)
 ·have c2:¬(keyR h k).k=0:=by simpa using c2
  refine zK 400 ?_;refine zM (zP ?_);rw[show incR h d k=_ from Ab c2,show incH h d k=_ from Ab c2];exact u11 2 rfl rfl (Sub.ofP (u20 (SubPs.refl _)) rfl rfl) ⟨⟨rfl,Sub.mo (by simp),rfl,trivial⟩,SubO.mp (rfl),trivial⟩
 ·have c2:(keyR h k).k=0:=by simpa using c2
  obtain⟨hkd,hke⟩:=wI1 g hv c2;have kb:=uE1 hkd hv;refine zL (zA ?_);refine zB (zX zJ [] mK1 500 yT kr rfl ?_);refine zF ?_;refine qC _ (cZ h d hd) rfl rfl ?_;refine zf (zA (zB (zO ?_)));refine zB (zX zJ [] [[],[0],[0,1],[],[3],[],(rgN 6),(rgN 7),(rgN 8)] 700 yT kr rfl ?_);refine zF ?_;refine qC _ (opPlace_ok h (zU h d).keys k hh g hkd hv ka.vd) rfl rfl ?_;refine zF ?_;refine zC (zA (zY (fun c6=>?_) (fun c6=>?_)))
  ·
   refine zL (zN (zA (zK 1000 ?_)));refine zM ?_;rw[show incR h d k=_ from(Aa (not_not_intro c2)).trans (Ab c6),show incH h d k=_ from(Aa (not_not_intro c2)).trans (Ab c6)];exact u11 2 rfl rfl (Sub.ofP (u20 nz) rfl rfl) ⟨⟨rfl,Sub.mo (by simp),rfl,trivial⟩,SubO.mp (rfl),trivial⟩
  ·
   refine zK 800 ?_;refine zY (fun c7=>?_) (fun c7=>?_)
   ·
    refine zB (zE zJ [] 900 rfl ?_);refine zF ?_;refine zQ _ (yY0) rfl ?_;refine zf (zA (zM (zR (zP ?_))));rw[show incR h d k=_ from(Aa (not_not_intro c2)).trans ((Aa om).trans (Ab c7)),show incH h d k=_ from(Aa (not_not_intro c2)).trans ((Aa om).trans (Ab c7))];exact u11 2 rfl rfl (Sub.ofP (u20 (SubPs.refl _)) rfl rfl) ⟨⟨rfl,Sub.mo (by simp),rfl,trivial⟩,SubO.mp (rfl),trivial⟩
   ·
    refine zX zJ [] [[],[0],[0,1],[0,1,2],[],[4],[],[6],[6,7],[],[9],[6,7,8,9,10],(rgN 12),(rgN 13),(rgN 14)] 900 yT kr rfl ?_;repeat(first|refine zH ?_|refine zT (by first|(simp only[Ar,An,Aw];omega)|exact jE (by omega)|first|rfl|exact⟨by omega,hvl.2⟩|exact⟨hvl.1,hvl.2⟩|exact⟨by simp[MR.len],by show _<(MR.map h obD ob0).len;simpa[MR.len]using hvl.2⟩|(simp only[MR.len];done)|exact Ew) ?_)
    refine zC (zN (zA (zK 1000 ?_)));refine zM ?_;rw[show incR h d k=_ from(Aa (not_not_intro c2)).trans ((Aa om).trans (Aa c7)),show incH h d k=_ from(Aa (not_not_intro c2)).trans ((Aa om).trans (Aa c7))];exact u11 2 rfl rfl (Sub.ofP (u20 nz) rfl rfl) ⟨⟨rfl,Sub.mo (by simp),rfl,trivial⟩,SubO.mp (cF (by rw[<-eo];show D.pvs ((obD (zU h d)).take 7++[.own _ 7 ((zU h d).keys.map vlD++[vlD k])]++(obD (zU h d)).drop 8)=_;rw[<-mapsnoc];exact ob_keys _ _ _)),trivial⟩
set_option maxHeartbeats 1000000 in
theorem IncludeD_G(h:List Ob)(d k:Vl)(hh:HpIn h)(g:Uh h)(hd:d.k=6->yU h d.r=true)(hk:(zU h d).kind=4)(hv:Vd h k):FnG Tryz.prog 17 [.bp 0 0,.agg (vlD d),.agg (vlD k)] (hpO h) (.agg (stD (incR h d k))) (hpO (incH h d k)):=by
 have ho:=pR0 (h:=h) (v:=d) om;have hvl:=gA ho.2;have eo:zU h d=h.getD d.r.toNat ob0:=xV hd ho.1;have ka:=gI1 g hd om;have la:=kA g d;have hhl:=hh.len;have h01:=uD1 g hv;refine jY zJ Tryz.func17 rfl rfl rfl rfl rfl rfl rfl ?_;intros;refine zK 100 ?_;refine zB ?_;refine zB (zX zJ [] mK1 200 yT kr rfl ?_);refine zF ?_;refine qC _ (KeyD_ok h k hh g hv) rfl rfl ?_;refine zF ?_;refine zC (zA (zK 300 ?_));refine zW rfl (fun c2=>?_) (fun c2=>?_)
 ·have c2:¬(keyR h k).k=0:=by have:=Ag c2;omega
  refine zK 400 ?_;refine zM (zP ?_);rw[show incR h d k=_ from Ab c2,show incH h d k=_ from Ab c2];exact u11 2 rfl rfl (Sub.ofP (u20 (SubPs.refl _)) rfl rfl) ⟨⟨rfl,Sub.mo (by simp),rfl,trivial⟩,SubO.mp (rfl),trivial⟩
 ·have c2:(keyR h k).k=0:=by have:=of_decide_eq_false c2;omega
  obtain⟨hkd,hke⟩:=wI1 g hv c2;have kb:=uE1 hkd hv;have hMx:=mix_one (h:=h) (a:=(zU h d).keys) (k:=k);refine zL (zA ?_);refine zB (zX zJ [] [[],[0],[0,1],[],[3],[3,4],[],[3,4,5,6],[3,4,5,6,7],[],[9],(rgN 11),(rgN 12),(rgN 13),(rgN 13),(rgN 14),(rgN 16)] 500 yT kr rfl ?_);refine zF ?_;refine qC _ (jH h d) rfl rfl ?_;refine zF ?_;refine qC _ ((mixed_ok h 15 (zU h d).keys [k] hh g ka kb om (by show 1<=2000000;decide)).args ⟨u6 _,u6 _,u6 _,u18 rfl,trivial⟩) rfl rfl ?_;refine zF ?_;refine zC (zA (zB (zK 600 ?_)));refine zW rfl (fun c5=>?_) (fun c5=>?_)
  ·have c5:(1000:Int)<((mixS h 15 (zU h d).keys [k]).length:Int):=Ag c5;refine zB (zE zJ [] 700 rfl ?_);refine zF ?_;refine zQ _ (yE0) rfl ?_;refine zf (zA (zM (zP ?_)));have hn:plI h (zU h d).keys k<0:=by
    rcases Int.lt_or_le (plI h (zU h d).keys k) 0 with hq|hq
    ·exact hq
    ·rw[hMx.1 hq]at c5;omega
   have hc:((zU h d).keys.length:Int)=1000:=by rw[hMx.2 hn,Af,Cg]at c5;omega
   rw[show incR h d k=_ from(Aa (not_not_intro c2)).trans ((Aa om).trans (Ab hc)),show incH h d k=_ from(Aa (not_not_intro c2)).trans ((Aa om).trans (Ab hc))];exact u11 2 rfl rfl (Sub.ofP (u20 (SubPs.refl _)) rfl rfl) ⟨⟨rfl,Sub.mo (by simp),rfl,trivial⟩,SubO.mp (rfl),trivial⟩
  ·have c5:¬(1000:Int)<((mixS h 15 (zU h d).keys [k]).length:Int):=of_decide_eq_false c5;refine zL (zA ?_);refine zB (zX zJ [] mK20 800 yT kr rfl ?_);repeat(first|refine zH ?_|refine zT (by first|rfl|exact⟨by omega,hvl.2⟩|exact⟨hvl.1,hvl.2⟩|exact⟨by simp[MR.len],by show _<(MR.map h obD ob0).len;simpa[MR.len]using hvl.2⟩|(simp only[MR.len];done)|exact Ew) ?_)
   refine zC (zA (zK 900 ?_));refine zM ?_;rcases Int.lt_or_le (plI h (zU h d).keys k) 0 with hq|hq
   ·have hc:¬((zU h d).keys.length:Int)=1000:=by rw[hMx.2 hq,Af,Cg]at c5;omega
    rw[show incR h d k=_ from(Aa (not_not_intro c2)).trans ((Aa om).trans (Aa hc)),show incH h d k=_ from(Aa (not_not_intro c2)).trans ((Aa om).trans (Aa hc))];exact u11 2 rfl rfl (Sub.ofP (u20 nz) rfl rfl) ⟨⟨rfl,Sub.mo (by simp),rfl,trivial⟩,SubO.mp (cF (by rw[<-eo];show D.pvs (obD {zU h d with keys:=mixS h 15 (zU h d).keys [k]})=_;rw[hMx.2 hq])),trivial⟩
   ·rw[show incR h d k=_ from(Aa (not_not_intro c2)).trans (Ab hq),show incH h d k=_ from(Aa (not_not_intro c2)).trans (Ab hq)];exact u11 2 rfl rfl (Sub.ofP (u20 nz) rfl rfl) ⟨⟨rfl,Sub.mo (by simp),rfl,trivial⟩,SubO.mp ((cF (n:=d.r.toNat) (o:={zU h d with keys:=(zU h d).keys}) (by rw[<-eo];show D.pvs (obD {zU h d with keys:=mixS h 15 (zU h d).keys [k]})=_;rw[hMx.1 hq])).trans (by rw[show({zU h d with keys:=(zU h d).keys}:Ob)=zU h d from rfl,eo,set_same' hvl.2];rfl)),trivial⟩
namespace Iz
theorem jF0{o:Ob}(h1:∀k,k<7->ltP o k=true)(h2:vH o=false):jB o=0:=by
 unfold jB;rw[Ab (Be.2 fun k hk=>h1 k (Ct.1 hk)),Aa (by rw[h2];decide)]
theorem jG0{o:Ob}(hs:jB o=0):(∀k,k<7->ltP o k=true)/\vH o=false:=by
 unfold jB at hs;split at hs
 ·rename_i h1;split at hs
  ·cases hs
  ·rename_i h2;exact⟨fun k hk=>Be.1 h1 k (Ct.2 hk),by simpa using h2⟩
 ·cases hs
theorem jM0:∀{l:List Vl}{r:Int},r∈jM l->∃v∈l,v.k=6/\v.r=r
 |[],_,h=>by cases h
 |x::l,r,h=>by
  rw[jM]at h;split at h
  ·rename_i hk;rcases Bl.1 h with rfl|h
   ·exact⟨x,Bc,hk,rfl⟩
   ·obtain⟨v,h1,h2⟩:=jM0 h;exact⟨v,Az _ h1,h2⟩
  ·obtain⟨v,h1,h2⟩:=jM0 h;exact⟨v,Az _ h1,h2⟩
theorem vH1{h:List Ob}{o:Ob}(V:Vs h o):jZ h o=0:=by
 unfold jZ;rw[Ab (Be.2 V.ok),Ab];rw[Be];intro r hr;unfold vJ gP at hr;rcases As.1 hr with hr|hr
 ·rcases As.1 hr with hr|hr
  ·simp only[As,Bv]at hr;rcases hr with(rfl|hr)|hr
   ·exact V.cls
   ·exact V.refs r hr
   ·exact V.order r hr
  ·obtain⟨v,h1,h2,rfl⟩:=jM0 hr;exact V.vals v h1 h2
 ·split at hr
  ·rename_i hk;rw[Bv.1 hr];exact V.weak hk.1 hk.2
  ·cases hr
theorem zL0{o:Ob}{v:Vl}(h:¬(o.kind=6\/o.kind=17)):fixV o v=v:=Aa fun e=>h e.2
theorem mx_le{a b c:Int}(ha:a<=1000)(hb:b<=1000)(hc:c<=1000):mx3 a b c<=1000:=by unfold mx3;split<;>split<;>omega
theorem mx_of{a b c:Int}(h:mx3 a b c<=1000):a<=1000/\b<=1000/\c<=1000:=by
 unfold mx3 at h;repeat' split at h
 all_goals omega
theorem jE0{o:Ob}(h1:Lib.contains (jS o.kind).data.toList [110]=false)(h2:o.items.length<=1000)(h3:o.keys.length<=1000)(h4:o.refs.length<=1000)(h5:o.names.length<=200):uL o=0:=by
 unfold uL;rw[Aa (by rw[h1,Cd];decide),Aa];have:=mx_le (a:=o.items.length) (b:=o.keys.length) (c:=o.refs.length) om om om;simp only[Cl,Ao,not_or];omega
theorem mO0{o:Ob}(h:uL o=0):o.items.length<=1000/\o.keys.length<=1000/\o.refs.length<=1000/\o.names.length<=200:=by
 unfold uL at h;split at h
 ·cases h
 ·split at h
  ·cases h
  ·rename_i h2;simp only[Cl,Ao,not_or]at h2;have:=mx_of (a:=o.items.length) (b:=o.keys.length) (c:=o.refs.length) om;omega
def ctn(h:List Ob)(v z:Vl):Bool:=
 if(zU h v).kind=3 then(decide (z.k=2)&& !z.nn)else if(zU h v).kind=4 then(decide (z.k=2)&& !z.nn)
 else if(zU h v).kind=0 then((decide (v.k=4)||decide (v.k=5))&&decide (z.k=0))
 else(((decide ((zU h v).kind=1)||decide ((zU h v).kind=2))||decide ((zU h v).kind=5))&&decide (z.k=0))
structure Good(h:List Ob)(v z:Vl)(i:Int):Prop where
 vv:qB v=true
 vr:v.k=6->yU h v.r=true
 zz:qB z=true
 z6:¬z.k=6
 i0:0<=i
 i1:i<=1099511627776
 ct:ctn h v z=true
theorem ctn_z{h:List Ob}{v z:Vl}(c:ctn h v z=true):z.k=2\/z.k=0:=by
 unfold ctn at c;repeat' split at c
 all_goals simp at c
 all_goals omega
theorem ctn_n{h:List Ob}{v z:Vl}(c:ctn h v z=true)(hk:(zU h v).kind=3\/(zU h v).kind=4):z.k=2/\z.nn=false:=by
 unfold ctn at c;rcases hk with hk|hk
 ·rw[Ab hk]at c;simpa using c
 ·rw[Aa om,Ab hk]at c;simpa using c
theorem cnt16{o:Ob}(hk:o.kind=16):cntS o=2:=by rw[kG 16 50 (by decide+kernel) hk];decide+kernel
theorem it_shape{v z:Vl}{i:Int}(h0:0<=i)(h1:i<=1099511627776):jB (itO v z i)=0:=by
 refine jF0 (fun k hk=>?_) ?_
 ·have e6:Lib.contains (jS 16).data.toList (lettersB.extract ((6:Nat):Int).toNat (((6:Nat):Int)+1).toNat).data.toList=true:=by decide+kernel
  unfold ltP;by_cases h6:k=6
  ·subst h6;rw[show(itO v z i).kind=16 from rfl,e6];simp
  ·have:(pW (itO v z i)).getD (k:Int).toNat false=true:=by
    rw[Ah]
    match k,hk with
    |0,_=>rfl
    |1,_=>rfl
    |2,_=>rfl
    |3,_=>rfl
    |4,_=>rfl
    |5,_=>rfl
    |6,_=>exact absurd rfl h6
   rw[this];rfl
 ·unfold vH;rw[cnt16 (o:=itO v z i) rfl,show xH (itO v z i).kind=1099511627776 from rfl];simp only[De,Bz,Ao,Ay,Bool.and_eq_false_iff];exact⟨⟨⟨⟨rfl,by show ¬(0:Int)<0;decide⟩,by show ¬i<0;omega⟩,by show ¬1099511627776<i;omega⟩,.inr (by show ¬(0:Int)<((([]:List Int).length:Nat):Int);decide)⟩
theorem gJ1{h:List Ob}{n:Int}(hn:inH h n)(hk:(yI h n).kind≠0):yU h n=true:=by
 have h1:=hn.1;have h2:=hn.2;simp only[yU,Aj,Ao,Bo,Ay];exact⟨⟨h1,by omega⟩,hk⟩
theorem is0{h:List Ob}(g:Uh h):yU h 0=true:=by
 have h1:=g.lo;exact gJ1 (h:=h) (n:=0) ⟨Int.le_refl _,by show(0:Int).toNat<h.length;omega⟩ (by rw[show yI h 0=bgO 0 from g.lo_at (i:=0) de];exact(by decide:(9:Int)≠0))
theorem con_n:Lib.contains (jS 16).data.toList [110]=false:=by decide+kernel
theorem it_sizes{v z:Vl}{i:Int}:uL (itO v z i)=0:=by
 have e:(itO v z i).kind=16:=rfl;exact jE0 (by rw[e];exact con_n) (by show 2<=1000;decide) (Ap _) (Ap _) (Ap _)
theorem jZ1{h:List Ob}{o:Ob}{n:Int}(hk:o.kind=2\/o.kind=4):qU h o n=true:=by
 unfold qU;rw[Aa om,Aa om,Aa om,Aa om,Aa om,Aa om,Aa om,Aa om,Aa om,Aa om,Aa om]
theorem zA1{h:List Ob}{v z:Vl}{i:Int}{n:Int}:qU h (itO v z i) n=ctn h v z:=by
 unfold qU;rw[Aa (by show ¬(16:Int)=5;decide),Aa (by show ¬(16:Int)=7;decide),Aa (by show ¬(16:Int)=8;decide),Aa (by show ¬(16:Int)=14;decide),Aa (by show ¬(16:Int)=9;decide),Aa (by show ¬(16:Int)=10;decide),Aa (by show ¬(16:Int)=15;decide),Ab (by show(16:Int)=16;rfl)];rfl
set_option maxHeartbeats 1000000 in
theorem jB1{h:List Ob}{v z:Vl}{i:Int}{n:Nat}(h0:yU h 0=true)(G:Good h v z i):Uho h (itO v z i) n:=by
 have hkv:∀x∈(itO v z i).keys++(itO v z i).items,x=v\/x=z:=fun x hx=>by
  have hx:x∈([]:List Vl)++[v,z]:=hx;simpa using hx
 refine⟨⟨(by decide:(0:Int)<=16),(by decide:(16:Int)<21)⟩,it_shape (v:=v) (z:=z) (i:=i) G.i0 G.i1,it_sizes,rfl,vH1 ⟨fun x hx=>?_,h0,(fun _ hr=>by cases hr),(fun _ hr=>by cases hr),fun x hx hk=>?_,fun hk=>absurd hk (by show ¬(16:Int)=18;decide)⟩,?_,rfl,?_⟩
 ·rw[zL0 (by show ¬((16:Int)=6\/(16:Int)=17);decide)];rcases hkv x hx with rfl|rfl
  ·exact G.vv
  ·exact G.zz
 ·rcases hkv x hx with rfl|rfl
  ·exact G.vr hk
  ·exact absurd hk G.z6
 ·rw[zA1];exact G.ct
 ·unfold jJ;rw[Ab (by show ¬(16:Int)=9;decide)]
theorem Good.mono{h h':List Ob}(E:Ge.Ge h h'){v z:Vl}{i j:Int}(G:Good h v z i)(h0:0<=j)(h1:j<=1099511627776):Good h' v z j:=by
 refine⟨G.vv,fun hk=>E.isO (G.vr hk),G.zz,G.z6,h0,h1,?_⟩;have:=G.ct;unfold ctn at this⊢;rw[(E.ob G.vr).1];exact this
theorem con16:∀k,k<6->Lib.contains (jS 16).data.toList (lettersB.extract k (((k:Nat):Int)+1).toNat).data.toList=false:=by decide+kernel
theorem bO0{o:Ob}(hs:jB o=0)(hk:o.kind=16){k:Nat}(hk6:k<6):(pW o).getD k false=true:=by
 have h1:=(jG0 hs).1 k om;unfold ltP at h1;rw[hk,Ah,con16 k hk6]at h1;simpa using h1
theorem it_fl{o:Ob}(hs:jB o=0)(hk:o.kind=16):o.name=⟨#[]⟩/\o.cls=0/\o.refs=[]/\o.names=[]/\o.keys=[]/\o.code=0:=by
 refine⟨Ag (bO0 hs hk (k:=0) de),Ag (bO0 hs hk (k:=1) de),Bf ?_,Bf ?_,Bf ?_,Ag (bO0 hs hk (k:=5) de)⟩
 ·have h9:((o.refs.length:Nat):Int)=0:=Ag (bO0 hs hk (k:=2) de);omega
 ·have h9:((o.names.length:Nat):Int)=0:=Ag (bO0 hs hk (k:=3) de);omega
 ·have h9:((o.keys.length:Nat):Int)=0:=Ag (bO0 hs hk (k:=4) de);omega
theorem great16:xH 16=1099511627776:=rfl
theorem two_of{α:Type}{l:List α}(h:l.length=2):∃a b,l=[a,b]:=by
 match l,h with
 |[a,b],_=>exact⟨a,b,rfl⟩
theorem it_is{o:Ob}(hs:jB o=0)(hk:o.kind=16):∃v z,o=itO v z o.state/\0<=o.state/\o.state<=1099511627776:=by
 obtain⟨t1,t2,t3,t4,t5⟩:=vR0 hs;obtain⟨e0,e1,e2,e3,e4,e5⟩:=it_fl hs hk;rw[cnt16 hk]at t1;rw[hk,great16]at t4;have e6:=t5 om;obtain⟨v,z,e7⟩:=two_of (l:=o.items) om;refine⟨v,z,?_,t3,t4⟩;obtain⟨kd,nm,cl,rf,od,ns,it,ks,cd,st⟩:=o;simp only at hk e0 e1 e2 e3 e4 e5 e6 e7;subst hk e0 e1 e2 e3 e4 e5 e6 e7;rfl
theorem it_of{h:List Ob}{o:Ob}{n:Nat}(u:Uho h o n)(hk:o.kind=16):∃v z i,o=itO v z i/\Good h v z i:=by
 obtain⟨v,z,e,i0,i1⟩:=it_is u.shape hk;generalize o.state=st at*;subst e;have V:=kZ u.vals;have hc:ctn h v z=true:=by
  have h9:=u.links
  rwa[zA1]at h9
 have hvz:=ctn_z hc;have m1:=V.ok v (by show v∈([]:List Vl)++[v,z];simp);have m2:=V.ok z (by show z∈([]:List Vl)++[v,z];simp);rw[zL0 (by show ¬((16:Int)=6\/(16:Int)=17);decide)]at m1 m2;exact⟨v,z,st,rfl,m1,fun h6=>V.vals v (by show v∈([]:List Vl)++[v,z];simp) h6,m2,by omega,i0,i1,hc⟩
theorem uho_list{h h':List Ob}{o:Ob}{n:Nat}{L:List Vl}(g:Uh h)(u:Uho h o n)(E:Ge.Ge h h')(hk:o.kind=2)(hL:∀x∈L,qB x=true/\(x.k=6->yU h' x.r=true))(hl:L.length<=1000):Uho h' {o with items:=L} n:=by
 obtain⟨s1,s2⟩:=jG0 u.shape;have V:=kZ u.vals;obtain⟨z1,z2,z3,z4⟩:=mO0 u.sizes;have hc:∀p:Ob,p.kind=2->cntS p=p.items.length:=fun p hp=>by
  unfold cntS;rw[hp,Aa (by decide+kernel),Ab (by decide+kernel)]
 have nk:¬(o.kind=6\/o.kind=17):=by omega
 refine⟨u.kind,jF0 s1 ?_,jE0 (o:={o with items:=L}) (by show Lib.contains (jS o.kind).data.toList [110]=false;rw[hk];decide+kernel) hl z2 z3 z4,u.names,vH1 ⟨fun x hx=>?_,E.isO V.cls,fun r hr=>E.isO (V.refs r hr),fun r hr=>E.isO (V.order r hr),fun x hx h6=>?_,fun h18=>absurd h18 (by show ¬o.kind=18;omega)⟩,?_,?_,?_⟩
 ·unfold vH at s2⊢;rw[hc _ hk]at s2;rw[hc _ (by exact hk)];simp only[De,Bz,Ao]at s2⊢;exact⟨⟨⟨⟨trivial,s2.1.1.1.2⟩,s2.1.1.2⟩,s2.1.2⟩,s2.2⟩
 ·rw[zL0 (by exact nk)];rcases As.1 hx with hx|hx
  ·have:=V.ok x (As.2 (.inl hx))
   rwa[zL0 nk]at this
  ·exact(hL x hx).1
 ·rcases As.1 hx with hx|hx
  ·exact E.isO (V.vals x (As.2 (.inl hx)) h6)
  ·exact(hL x hx).2 h6
 ·exact jZ1 (o:={o with items:=L}) (.inl hk)
 ·show krF h' [] o.keys=0;rw[E.krf g o.keys [] (fun x hx h6=>V.vals x (As.2 (.inl hx)) h6) (fun _ hx=>by cases hx)];exact u.keys
 ·unfold jJ;rw[Ab (by show ¬o.kind=9;omega)]
theorem zC1{h:List Ob}{k:Vl}(hk:uE h k=true):∀{l seen:List Vl},krF h seen l=0->(∀x∈seen++l,smK h 1001 x k=false)->krF h seen (l++[k])=0
 |[],seen,_,hx=>by
  show krF h seen [k]=0;rw[krF,Aa (by rw[hk];decide),Aa]
  ·rfl
  ·rw[Bool.not_eq_true,List.any_eq_false];intro x hx';rw[hx x (As.2 (.inl hx'))];decide
 |s::r,seen,h0,hx=>by
  rw[krF]at h0;show krF h seen (s::(r++[k]))=0;rw[krF];split at h0
  ·cases h0
  ·rename_i h1;split at h0
   ·cases h0
   ·rename_i h2;rw[Aa h1,Aa h2];refine zC1 hk h0 fun x hx'=>hx x ?_;simp only[As,Bv,Bl]at hx'⊢;rcases hx' with(hx'|hx')|hx'
    ·exact .inl hx'
    ·exact .inr (.inl (by simpa using hx'))
    ·exact .inr (.inr hx')
theorem pl_no{h:List Ob}{k:Vl}{l:List Vl}(hp:¬0<=plI h l k):∀x∈l,smK h 1001 x k=false:=by
 have:=jQ0 h k l;rw[Ca hp]at this;have:=List.any_eq_false.1 this.symm;intro x hx;simpa using this x hx
theorem uho_set{h h':List Ob}{o:Ob}{n:Nat}{k:Vl}(g:Uh h)(u:Uho h o n)(E:Ge.Ge h h')(hk:o.kind=4)(hv:qB k=true)(hr:k.k=6->yU h k.r=true)(hy:uE h k=true)(hp:¬0<=plI h o.keys k)(hl:(o.keys++[k]).length<=1000):Uho h' {o with keys:=o.keys++[k]} n:=by
 obtain⟨s1,s2⟩:=jG0 u.shape;have V:=kZ u.vals;obtain⟨z1,z2,z3,z4⟩:=mO0 u.sizes;have hc:∀p:Ob,p.kind=4->cntS p=0:=fun p hp=>by
  rw[kG 4 48 (by decide+kernel) hp];decide+kernel
 have nk:¬(o.kind=6\/o.kind=17):=by omega
 have hm:∀x∈(o.keys++[k])++o.items,x∈o.keys++o.items\/x=k:=fun x hx=>by
  simp only[As,Bv]at hx⊢;rcases hx with(hx|hx)|hx
  ·exact .inl (.inl hx)
  ·exact .inr hx
  ·exact .inl (.inr hx)
 refine⟨u.kind,jF0 (fun j hj=>?_) ?_,jE0 (o:={o with keys:=o.keys++[k]}) (by show Lib.contains (jS o.kind).data.toList [110]=false;rw[hk];decide+kernel) z1 hl z3 z4,u.names,vH1 ⟨fun x hx=>?_,E.isO V.cls,fun r hr=>E.isO (V.refs r hr),fun r hr=>E.isO (V.order r hr),fun x hx h6=>?_,fun h18=>absurd h18 (by show ¬o.kind=18;omega)⟩,?_,?_,?_⟩
 ·by_cases h4:j=4
  ·subst h4;unfold ltP;rw[show({o with keys:=o.keys++[k]}:Ob).kind=4 from hk,show Lib.contains (jS 4).data.toList (lettersB.extract ((4:Nat):Int).toNat (((4:Nat):Int)+1).toNat).data.toList=true by decide+kernel];simp
  ·have h1:=s1 j hj;unfold ltP at h1⊢;rw[show(pW {o with keys:=o.keys++[k]}).getD (j:Int).toNat false=(pW o).getD (j:Int).toNat false by
    rw[Ah]
    match j,hj with
    |0,_=>rfl
    |1,_=>rfl
    |2,_=>rfl
    |3,_=>rfl
    |4,_=>exact absurd rfl h4
    |5,_=>rfl
    |6,_=>rfl]
   exact h1
 ·unfold vH at s2⊢;rw[hc _ hk]at s2;rw[hc _ (by exact hk)];exact s2
 ·rw[zL0 (by exact nk)];rcases hm x hx with hx|rfl
  ·have:=V.ok x hx
   rwa[zL0 nk]at this
  ·exact hv
 ·rcases hm x hx with hx|rfl
  ·exact E.isO (V.vals x hx h6)
  ·exact E.isO (hr h6)
 ·exact jZ1 (o:={o with keys:=o.keys++[k]}) (.inr hk)
 ·show krF h' [] (o.keys++[k])=0;rw[E.krf g (o.keys++[k]) [] (fun x hx h6=>by
   rcases As.1 hx with hx|hx
   ·exact V.vals x (As.2 (.inl hx)) h6
   ·rw[Bv.1 hx]at h6⊢;exact hr h6) (fun _ hx=>by cases hx)]
  refine zC1 hy u.keys fun x hx=>pl_no hp x ?_;simpa using hx
 ·unfold jJ;rw[Ab (by show ¬o.kind=9;omega)]
end Iz
variable{md me:Bool}
variable{md me:Bool}
theorem vok_int{v:Vl}(hv:qB v=true)(hk:v.k=2):uK v.nn v.nl=true:=by
 unfold qB at hv;rw[Aa om,Aa om,Ab hk,Aj,Aj,Aj]at hv;exact hv.1.1.1
theorem fix_5{o:Ob}{v:Vl}(hk:o.kind=5):fixV o v=v:=by
 unfold fixV;split
 ·rename_i h;simp[hk]at h
 ·rfl
theorem rg_of{h:List Ob}(hh:HpIn h)(g:Uh h){n:Int}(hn:yU h n=true)(hk:(yI h n).kind=5):RgO (yI h n):=by
 have hin:=yR hn;have hlt:n.toNat<h.length:=by have:=hin;unfold inH at this;omega
 have h49:49<=n.toNat:=by
  rcases Br n.toNat 49 with h1|h1
  ·have e:=g.lo_at h1;have e2:yI h n=bgO n.toNat:=e;rw[e2]at hk;exact absurd hk (by show ¬(9:Int)=5;decide)
  ·exact h1
 have hu:=g.hi_at h49 hlt;have e3:yI h (n.toNat:Nat)=yI h n:=rfl;rw[e3]at hu;have hO:=hh.at n;have hV:=kZ hu.vals;have hS:=(vR0 hu.shape).1;rw[cnt5 hk]at hS;have hl:(yI h n).items.length=3:=by omega
 have hr:=hu.links;unfold qU at hr;rw[Ab hk]at hr;unfold rngS at hr;rw[Aj,Ao,Be]at hr;have hit:∀j<3,(yI h n).items.getD j vl0∈(yI h n).items:=fun j hj=>by
  rw[Ac,Ae om];exact Cv _
 have hrp:∀j<3,((yI h n).items.getD j vl0).k=2/\((yI h n).items.getD j vl0).nl.length<=40:=fun j hj=>by
  have:=hr.1 _ (hit j hj);unfold rngP at this;rw[Aj,Ao,Ao]at this;exact this
 have hok:∀j<3,uK ((yI h n).items.getD j vl0).nn ((yI h n).items.getD j vl0).nl=true:=fun j hj=>by
  have:=hV.ok _ (List.mem_append_right _ (hit j hj));rw[fix_5 hk]at this;exact vok_int this (hrp j hj).1
 have hlg:∀j<3,Lg ((yI h n).items.getD j vl0).nl:=fun j hj=>(hO.iv _ (hit j hj)).nl;refine⟨by omega,hO.il,fun j hj=>(hrp j hj).2,hlg,hok,?_⟩;rcases Cb (VL ((yI h n).items.getD 2 vl0).nl)with h0|h0
 ·have e:=(bS (hlg 2 de) (hok 2 de)).1;rw[h0,qK]at e;rw[e]at hr;exact absurd hr.2 de
 ·exact h0
namespace Iz
theorem tN0(f:Ob->Nat):∀(h:List Ob)(r:Nat)(o:Ob),r<h.length->((h.set r o).map f).sum+f (h.getD r ob0)=(h.map f).sum+f o
 |[],_,_,hr=>by simp at hr
 |x::h,0,o,_=>by
  show(((o::h).map f).sum+f x=_);rw[By,Cw,By,Cw];omega
 |x::h,r+1,o,hr=>by
  have:=tN0 f h r o (by simpa using hr);show(((x::h.set r o).map f).sum+f (h.getD r ob0)=_);rw[By,Cw,By,Cw];omega
theorem wU1{h:List Ob}{r:Nat}{o:Ob}(hr:r<h.length):cH (h.set r o)+cO (h.getD r ob0)=cH h+cO o:=by
 rw[xQ0,xQ0];exact tN0 cO h r o hr
theorem zH1{h:List Ob}(hh:HpIn h){r:Nat}{o:Ob}(ho:ObIn o):HpIn (h.set r o):=⟨fun x hx=>by
 rcases Es hx with hx|rfl
 ·exact hh.ob x hx
 ·exact ho,by rw[Cu];exact hh.len⟩
theorem hp_app{h:List Ob}(hh:HpIn h)(hl:h.length<2000000){o:Ob}(ho:ObIn o):HpIn (h++[o]):=⟨fun x hx=>by
 rcases As.1 hx with hx|hx
 ·exact hh.ob x hx
 ·rw[Bv.1 hx];exact ho,by rw[Af,Cg];omega⟩
theorem enc_sz(r:Int):(Utf8.encode r).size<=4:=by
 unfold Utf8.encode;simp only[];repeat' split
 all_goals first|exact(show 1<=4 by decide)|exact(show 2<=4 by decide)|exact(show 3<=4 by decide)|exact(show 4<=4 by decide)
theorem vK1{N:Nat}{c:Int}{s:ByteArray}(h0:0<=c)(h1:c<=100)(hs:s.size<=2000000):StC N (raS c s):=
 ⟨⟨(by decide:(-9223372036854775808:Int)<=1),(by decide:(1:Int)<=9223372036854775807),(by show-9223372036854775808<=c;omega),(by show c<=9223372036854775807;omega),Ap _⟩,hs,vJ0 _,vJ0 _,(fun _ h=>by cases h),(by show cVs []<=300000000;decide)⟩
theorem tR0{N:Nat}:StC N dnS:=
 ⟨⟨(by decide:(-9223372036854775808:Int)<=3),(by decide:(3:Int)<=9223372036854775807),(by decide:(-9223372036854775808:Int)<=0),(by decide:(0:Int)<=9223372036854775807),Ap _⟩,(by decide:ByteArray.empty.size<=2000000),vJ0 _,vJ0 _,(fun _ h=>by cases h),(by show cVs []<=300000000;decide)⟩
theorem nu_C{N:Nat}{n:Int}(h:(lim n.natAbs).length<=1000):VlC N (nuV n):=
 ⟨⟨(by decide:(-9223372036854775808:Int)<=2),(by decide:(2:Int)<=9223372036854775807),(by decide:(-9223372036854775808:Int)<=0),(by decide:(0:Int)<=9223372036854775807),yX _,(fun _ h=>by cases h),by show(lim n.natAbs).length<=2000000;omega,(by decide:0<=2000000),(by decide:ByteArray.empty.size<=2000000)⟩,fun hk=>absurd hk (by show ¬(2:Int)=6;decide)⟩
theorem gY1{N:Nat}{l:List Vl}{i:Int}(hl:∀x∈l,VlC N x):StC N (atS l i):=by
 unfold atS;split
 ·refine bG0 ?_;rw[Ac]
  cases hq:l[i.toNat]? with
  |none=>exact vJ0 _
  |some v=>exact hl v (Bi hq)
 ·exact tR0
theorem ob_vlc{H:List Ob}(g:Uh H)(hh:HpIn H)(c:Vl):(∀x∈(zU H c).keys,VlC H.length x)/\∀x∈(zU H c).items,VlC H.length x:=by
 by_cases hk:(zU H c).kind=0
 ·by_cases h6:c.k=6/\yU H c.r=true
  ·have e:zU H c=yI H c.r:=Ab h6;have h7:=h6.2;simp only[yU,Aj,Bo,Ay]at h7;rw[e]at hk;exact absurd hk h7.2
  ·have e:zU H c=ob0:=Aa h6;rw[e];exact⟨(fun _ hx=>by cases hx),(fun _ hx=>by cases hx)⟩
 ·have oc:=(obj_C (tA0 g hh) hk).1;exact⟨oc.keys,oc.items⟩
theorem elm_st{H:List Ob}(g:Uh H)(hh:HpIn H){c z:Vl}{i:Int}(hi:0<=i)(hr:(zU H c).kind=5->RgO (zU H c)):StC H.length (elmR H c z i):=by
 obtain⟨k1,k2⟩:=ob_vlc g hh c;unfold elmR;split
 ·rename_i hk;have ho:=hr hk;unfold pgS;split
  ·rename_i hl;refine bG0 (nu_C ?_);have:=(gQ1 ho.siz.1 ho.siz.2.1 ho.siz.2.2.2 hi hl).1;exact Au this de
  ·exact tR0
 ·unfold elmS;repeat' split
  ·exact bG0 (tx_C (Au (enc_sz _) de))
  ·exact tR0
  ·exact bG0 (qQ1 om (by have:=xT0 c.s i.toNat;omega))
  ·exact tR0
  ·exact gY1 k1
  ·exact vK1 de de de
  ·exact gY1 k2
theorem nx_st{H:List Ob}(g:Uh H)(hh:HpIn H){c z:Vl}{i:Int}(hi:0<=i)(hr:(zU H c).kind=5->RgO (zU H c)):StC H.length (nxG H c z i):=by
 unfold nxG;split
 ·exact tR0
 ·exact elm_st g hh hi hr
theorem uK1{H:List Ob}{v:Vl}(hi:VlIn v)(hv:uB H v=true):Gc H v:=gv_gc (has_gv hi hv)
theorem cV0{H:List Ob}(g:Uh H){v:Vl}(hv:uB H v=true){b:ByteArray}(hb:b.size<=100):((⟨#[39]⟩:ByteArray)++(yI H (clA H v)).name++b).size<=2000000:=by
 have h2:=nm_sz g (xO0 g (uV0 g hv));rw[Db,Db];have:(⟨#[39]⟩:ByteArray).size=1:=rfl;omega
theorem gU1{H:List Ob}(g:Uh H)(hh:HpIn H){v:Vl}(hi:VlIn v)(hv:uB H v=true)(s:ByteArray):StC H.length (caI (spS H v s).1 (spS H v s).2.1):=by
 obtain⟨a,b,c⟩:=gc_sp g hh (uK1 hi hv) s;exact jK1 a b om
theorem n0_st{H:List Ob}(g:Uh H)(hh:HpIn H){v:Vl}(hi:VlIn v)(hv:uB H v=true):StC H.length (nx0 H v):=by
 unfold nx0;split
 ·exact jK1 (uK1 hi hv) (fun _ hx=>by cases hx) (Ap _)
 ·split
  ·exact gU1 g hh hi hv _
  ·exact vK1 de de (cV0 g hv de)
structure Rd(h:List Ob)(v it m:Vl)(C:Nat)(H:List Ob):Prop where
 g:Uh H
 hh:HpIn H
 co:cH H<=C
 ln:h.length<=H.length
 vv:uB H v=true
 vi:VlIn v
 mv:uB H m=true
 mi:VlIn m
 tv:uB H it=true
 ti:VlIn it
theorem pQ{H H':List Ob}(E:Ge.Ge H H'){v:Vl}(hv:uB H v=true):uB H' v=true:=by
 have h1:=uF hv;unfold uB at hv⊢;simp only[Aj,Cl,Bo,Ay]at hv⊢;refine⟨hv.1,?_⟩;by_cases h6:v.k=6
 ·exact .inr (E.isO (h1 h6))
 ·exact .inl h6
theorem nxJ_rng{H:List Ob}{c z:Vl}{i:Int}(h0:0<=i)(h1:i<=1099511627776):0<=nxJ H c z i/\nxJ H c z i<=1099511627776:=by
 unfold nxJ;split
 ·omega
 ·split<;>omega
section
variable{h H:List Ob}{v it m:Vl}{C:Nat}
theorem Rd.mono(x:Rd h v it m C H){H':List Ob}{C':Nat}(E:Ge.Ge H H')(g':Uh H')(hh':HpIn H')(hc:cH H'<=C'):Rd h v it m C' H':=
 ⟨g',hh',hc,Au x.ln E.le,pQ E x.vv,x.vi,pQ E x.mv,x.mi,pQ E x.tv,x.ti⟩
theorem it_at(g:Uh H)(hh:HpIn H)(tv:uB H it=true)(hk:(zU H it).kind=16):∃(r:Nat)(c z:Vl)(i:Int),it=rfV (r:Nat)/\H[r]?=some (itO c z i)/\49<=r/\Good H c z i/\VlIn c/\VlIn z/\Uho H (itO c z i) r:=by
 obtain⟨h6,ho,e⟩:=jV (h:=H) (v:=it) om;have hin:=yR ho;have er:((it.r.toNat:Nat):Int)=it.r:=Int.toNat_of_nonneg hin.1;have h49:49<=it.r.toNat:=by
  rcases Br it.r.toNat 49 with hl|hl
  ·rw[e,<-er,show yI H ((it.r.toNat:Nat):Int)=bgO it.r.toNat from g.lo_at hl]at hk;exact absurd hk (by show ¬(9:Int)=16;decide)
  ·exact hl
 have u:=g.hi_at h49 hin.2;rw[e,<-er]at hk;obtain⟨c,z,i,eo,G⟩:=it_of u hk;rw[eo]at u;have hob:=hh.at ((it.r.toNat:Nat):Int);rw[eo]at hob;have hvk:qB it=true:=by
  unfold uB at tv;simp only[Aj]at tv;exact tv.1
 refine⟨it.r.toNat,c,z,i,?_,?_,h49,G,hob.iv c (by show c∈[c,z];simp),hob.iv z (by show z∈[c,z];simp),u⟩
 ·rw[er];exact qV0 hvk h6
 ·have e2:H.getD it.r.toNat ob0=itO c z i:=eo;rw[Ac]at e2
  cases hq:H[it.r.toNat]? with
  |none=>rw[List.getElem?_eq_none_iff]at hq;have:=hin.2;omega
  |some o=>rw[hq]at e2;exact congrArg some e2
theorem Rd.next(x:Rd h v it m C H):∃R H',FnG Tryz.prog 18 [.bp 0 0,.agg (vlD it)] (hpO H) (.agg (stD R)) (hpO H')/\FnG Tryz.prog 19 [.bp 0 0,.agg (vlD it)] (hpO H) (.agg (stD R)) (hpO H')/\StC H'.length R/\Rd h v it m C H'/\((zU H' it).kind=17->R=caI it []):=by
 by_cases hk:(zU H it).kind=16
 ·obtain⟨r,c,z,i,e,hr,h49,G,ci,zi,u⟩:=it_at x.g x.hh x.tv hk;have hrl:=(Am.1 hr).1;have hin:inH H ((r:Nat):Int):=Ge.in_nat hrl;have ea:yI H ((r:Nat):Int)=itO c z i:=by
   show H.getD r ob0=_;rw[Ac,hr];rfl
  have hrg:(zU H c).kind=5->RgO (zU H c):=fun h5=>by
   obtain⟨_,ho,e5⟩:=jV (h:=H) (v:=c) om;rw[e5]at h5⊢;exact rg_of x.hh x.g ho h5
  have hz2:=(cE G.zz).1;have hzd:(zU H c).kind=3\/(zU H c).kind=4->z.nn=false/\z.nl=lim (VL z.nl):=fun hd=>by
   obtain⟨z1,z2⟩:=ctn_n G.ct hd;exact⟨z2,(bS zi.nl (vok2 z1 G.zz).1).1⟩
  have j0:=nxJ_rng (H:=H) (c:=c) (z:=z) G.i0 G.i1;have pA:=itNextR_G H r c z i hr G.vr G.i0 G.i1 ci (gM x.hh c) zi.nn hrg;have pB:=refNextR_G H r c z i hr G.vr G.i0 G.i1 ci (gM x.hh c) zi.nn hrg x.hh om zi.nl hzd;have E:Ge.Ge H (H.set r (itO c z (nxJ H c z i))):=Ge.set (n:=((r:Nat):Int)) hin (by rw[ea];exact⟨rfl,rfl,rfl⟩) (fun h1=>by rw[ea]at h1;exact absurd h1 (by show ¬(16:Int)=1;decide));have hc:uY (H.set r (itO c z (nxJ H c z i))) r=0:=by
   refine Ge.code_of h49 ?_;have ea2:yI (H.set r (itO c z (nxJ H c z i))) ((r:Nat):Int)=itO c z (nxJ H c z i):=(Ge.at_set (n:=((r:Nat):Int)) hin hin).trans (Ab rfl);rw[ea2];exact jB1 (E.isO (is0 x.g)) (G.mono E j0.1 j0.2)
  have g':=Ge.uh_set (n:=((r:Nat):Int)) x.g hin E hc;have hcost:=wU1 (o:=itO c z (nxJ H c z i)) hrl;have e1:cO (H.getD r ob0)=cO (itO c z (nxJ H c z i)):=by
   rw[show H.getD r ob0=itO c z i from ea];rfl
  subst e;refine⟨_,_,pA,pB,?_,x.mono E g' (zH1 x.hh (pP0 ci zi om)) (by have:=x.co;omega),fun h17=>?_⟩
  ·rw[Cu];exact nx_st x.g x.hh G.i0 hrg
  ·exfalso;rw[(E.ob (uF x.tv)).1]at h17;omega
 ·refine⟨_,_,itNext0_G H it x.hh x.g x.ti x.tv hk,refNext0_G H it x.hh x.g x.ti x.tv hk,n0_st x.g x.hh x.ti x.tv,x,fun h17=>Ab h17⟩
theorem ext_in{o:Ob}{L:List Vl}(ho:ObIn o)(hl:L.length<=2000000)(hL:∀x∈L,VlIn x):ObIn {o with items:=L}:=⟨ho.kd,ho.cl,ho.co,ho.st,ho.nm,ho.rl,ho.ol,ho.nl,hl,ho.kl,ho.ns,hL,ho.kv⟩
theorem ext_in2{o:Ob}{L:List Vl}(ho:ObIn o)(hl:L.length<=2000000)(hL:∀x∈L,VlIn x):ObIn {o with keys:=L}:=⟨ho.kd,ho.cl,ho.co,ho.st,ho.nm,ho.rl,ho.ol,ho.nl,ho.il,hl,ho.ns,ho.iv,hL⟩
theorem jU1(g:Uh H){w:Vl}(hk:(zU H w).kind=2\/(zU H w).kind=4):∃r:Nat,w.k=6/\yU H w.r=true/\w.r.toNat=r/\49<=r/\r<H.length/\inH H ((r:Nat):Int)/\yI H ((r:Nat):Int)=zU H w/\Uho H (zU H w) r:=by
 obtain⟨h6,ho,e⟩:=jV (h:=H) (v:=w) om;have hin:=yR ho;have er:((w.r.toNat:Nat):Int)=w.r:=Int.toNat_of_nonneg hin.1;have h49:49<=w.r.toNat:=by
  rcases Br w.r.toNat 49 with hl|hl
  ·rw[e,<-er,show yI H ((w.r.toNat:Nat):Int)=bgO w.r.toNat from g.lo_at hl]at hk;exact absurd hk (by show ¬((9:Int)=2\/(9:Int)=4);decide)
  ·exact hl
 have u:=g.hi_at h49 hin.2;rw[er,<-e]at u;exact⟨_,h6,ho,rfl,h49,hin.2,Ge.in_nat hin.2,by rw[er,e],u⟩
theorem cV_v{w:Vl}(h:qB w=true):cV w<=42108:=by
 have h1:=mB0 h;have h2:=(cE h).2.2;omega
theorem qF0{w:Vl}(h:uB H w=true):qB w=true:=by
 unfold uB at h;simp only[Aj]at h;exact h.1
theorem uW1(l:List Vl)(w:Vl):cVs (l++[w])=cVs l+cV w:=by
 unfold cVs;rw[Ad,Ed,En,Eo];omega
theorem uX1(o:Ob):cO o=120+10*o.name.size+(o.names.map fun s=>s.size+1).sum+23*o.refs.length+23*o.order.length+cVs o.keys+cVs o.items:=rfl
theorem cO_it(o:Ob)(L:List Vl):cO {o with items:=L}=120+10*o.name.size+(o.names.map fun s=>s.size+1).sum+23*o.refs.length+23*o.order.length+cVs o.keys+cVs L:=rfl
theorem cO_ks(o:Ob)(L:List Vl):cO {o with keys:=L}=120+10*o.name.size+(o.names.map fun s=>s.size+1).sum+23*o.refs.length+23*o.order.length+cVs L+cVs o.items:=rfl
theorem Rd.ext(x:Rd h v it m C H)(hk:(zU H v).kind=2):∃R H',FnG Tryz.prog 14 [.bp 0 0,.agg (vlD v),vsD [m]] (hpO H) (.agg (stD R)) (hpO H')/\FnG Tryz.prog 15 [.bp 0 0,.agg (vlD v),vsD [m]] (hpO H) (.agg (stD R)) (hpO H')/\Rd h v it m (C+50000) H':=by
 obtain⟨r,h6,ho,er,h49,hrl,hin,ea,u⟩:=jU1 x.g (.inl hk);refine⟨_,_,opExtend_G H v [m] x.hh x.g ⟨h6,ho⟩ (by show 1<=2000000;decide),Extend_G H v [m] x.hh x.g ⟨h6,ho⟩ (by show 1<=2000000;decide),?_⟩;have hx:Rd h v it m (C+50000) H:=⟨x.g,x.hh,by have:=x.co;omega,x.ln,x.vv,x.vi,x.mv,x.mi,x.tv,x.ti⟩;unfold exH;split
 ·exact hx
 ·rename_i hn;rw[er];have hll:((zU H v).items++[m]).length<=1000:=by
   rw[Af];have hn:¬(1000:Int)<((zU H v).items.length:Int)+(([m]:List Vl).length:Int):=hn;omega
  have hob:=gM x.hh v;have V:=kZ u.vals;have nk:¬((zU H v).kind=6\/(zU H v).kind=17):=by omega
  have E:Ge.Ge H (H.set r {zU H v with items:=(zU H v).items++[m]}):=Ge.set (n:=((r:Nat):Int)) hin (by rw[ea];exact⟨rfl,rfl,rfl⟩) (fun h1=>by rw[ea]at h1;omega);have hc:uY (H.set r {zU H v with items:=(zU H v).items++[m]}) r=0:=by
   refine Ge.code_of h49 ?_;have ea2:yI (H.set r {zU H v with items:=(zU H v).items++[m]}) ((r:Nat):Int)={zU H v with items:=(zU H v).items++[m]}:=(Ge.at_set (n:=((r:Nat):Int)) hin hin).trans (Ab rfl);rw[ea2];refine uho_list x.g u E hk (fun y hy=>?_) hll;rcases As.1 hy with hy|hy
   ·have h1:=V.ok y (As.2 (.inr hy));rw[zL0 nk]at h1;exact⟨h1,fun hk6=>E.isO (V.vals y (As.2 (.inr hy)) hk6)⟩
   ·rw[Bv.1 hy];exact⟨qF0 x.mv,fun hk6=>E.isO (uF x.mv hk6)⟩
  have g':=Ge.uh_set (n:=((r:Nat):Int)) x.g hin E hc;refine x.mono E g' (zH1 x.hh (ext_in hob om fun y hy=>?_)) ?_
  ·rcases As.1 hy with hy|hy
   ·exact hob.iv y hy
   ·rw[Bv.1 hy];exact x.mi
  ·have hcost:=wU1 (o:={zU H v with items:=(zU H v).items++[m]}) hrl;rw[show H.getD r ob0=zU H v from ea]at hcost;have e1:cO {zU H v with items:=(zU H v).items++[m]}=cO (zU H v)+cV m:=by
    rw[cO_it,uX1,uW1];omega
   have:=x.co;have:=cV_v (qF0 x.mv);omega
theorem Rd.inc(x:Rd h v it m C H)(hk:(zU H v).kind=4):∃R H',FnG Tryz.prog 16 [.bp 0 0,.agg (vlD v),.agg (vlD m)] (hpO H) (.agg (stD R)) (hpO H')/\FnG Tryz.prog 17 [.bp 0 0,.agg (vlD v),.agg (vlD m)] (hpO H) (.agg (stD R)) (hpO H')/\Rd h v it m (C+50000) H':=by
 obtain⟨r,h6,ho,er,h49,hrl,hin,ea,u⟩:=jU1 x.g (.inr hk);have hvd:=has_vd x.mv;refine⟨_,_,opInclude_G H v m x.hh x.g (fun _=>ho) hk hvd,IncludeD_G H v m x.hh x.g (fun _=>ho) hk hvd,?_⟩;have hx:Rd h v it m (C+50000) H:=⟨x.g,x.hh,by have:=x.co;omega,x.ln,x.vv,x.vi,x.mv,x.mi,x.tv,x.ti⟩;unfold incH;split
 ·exact hx
 ·rename_i hky;split
  ·exact hx
  ·rename_i hpl;split
   ·exact hx
   ·rename_i hn;rw[er];have hkl:=(kA x.g v).1;have hll:((zU H v).keys++[m]).length<=1000:=by
     rw[Af,Cg];omega
    have hob:=gM x.hh v;have hkd:uE H m=true:=(wI1 x.g hvd (Classical.not_not.1 hky)).1;have E:Ge.Ge H (H.set r {zU H v with keys:=(zU H v).keys++[m]}):=Ge.set (n:=((r:Nat):Int)) hin (by rw[ea];exact⟨rfl,rfl,rfl⟩) (fun h1=>by rw[ea]at h1;omega);have hc:uY (H.set r {zU H v with keys:=(zU H v).keys++[m]}) r=0:=by
     refine Ge.code_of h49 ?_;have ea2:yI (H.set r {zU H v with keys:=(zU H v).keys++[m]}) ((r:Nat):Int)={zU H v with keys:=(zU H v).keys++[m]}:=(Ge.at_set (n:=((r:Nat):Int)) hin hin).trans (Ab rfl);rw[ea2];exact uho_set x.g u E hk (qF0 x.mv) (uF x.mv) hkd hpl hll
    have g':=Ge.uh_set (n:=((r:Nat):Int)) x.g hin E hc;refine x.mono E g' (zH1 x.hh (ext_in2 hob om fun y hy=>?_)) ?_
    ·rcases As.1 hy with hy|hy
     ·exact hob.kv y hy
     ·rw[Bv.1 hy];exact x.mi
    ·have hcost:=wU1 (o:={zU H v with keys:=(zU H v).keys++[m]}) hrl;rw[show H.getD r ob0=zU H v from ea]at hcost;have e1:cO {zU H v with keys:=(zU H v).keys++[m]}=cO (zU H v)+cV m:=by
      rw[cO_ks,uX1,uW1];omega
     have:=x.co;have:=cV_v (qF0 x.mv);omega
end
theorem rd_start{h:List Ob}(g:Uh h)(hh:HpIn h)(hp:(qJ h).1=0){v m:Vl}(vv:uB h v=true)(vi:VlIn v)(mv:uB h m=true)(mi:VlIn m):
  StC (itH h v).length (itG h v)/\Rd h v (if(itG h v).k=0 then(itG h v).v else v) m 81000000 (itH h v):=by
 have hco:=uh_cost hp;have hl:h.length<=5000:=by
  unfold qJ at hp;split at hp
  ·exact absurd hp de
  ·omega
 have r0:∀it,uB h it=true->VlIn it->Rd h v it m 81000000 h:=fun it ht hi=>⟨g,hh,by omega,Aq _,vv,vi,mv,mi,ht,hi⟩;by_cases c:(zU h v).kind=17\/(zU h v).kind=16
 ·rw[(it_1 c).1,(it_1 c).2];exact⟨bG0 ⟨vi,fun hk=>(kD (uF vv hk)).2⟩,r0 v vv vi⟩
 ·by_cases b:itcB h v=true
  ·rw[(it_2 c b).1,(it_2 c b).2];have hkl:=(gM hh v).kl;have hzi:VlIn (itZ h v):=zH0 hkl;have hkl2:=(kA g v).1;have hzz:qB (itZ h v)=true/\¬(itZ h v).k=6:=by
    unfold itZ;split
    ·refine⟨?_,by show ¬(2:Int)=6;decide⟩;have e:qB (nuV ((zU h v).keys.length:Nat))=true:=by
      have hz:uK (decide (((zU h v).keys.length:Int)<0)) (lim ((zU h v).keys.length:Int).natAbs)=true:=zOk (z:=((zU h v).keys.length:Int)) (Au (qF (k:=1) om) de);show qB ⟨2,decide (((zU h v).keys.length:Int)<0),lim ((zU h v).keys.length:Int).natAbs,false,[],ByteArray.empty,0⟩=true;unfold qB;rw[Aa (by show ¬((2:Int)=0\/(2:Int)=8);decide),Aa (by show ¬(2:Int)=1;decide),Ab rfl];show((uK (decide (((zU h v).keys.length:Int)<0)) (lim ((zU h v).keys.length:Int).natAbs)&&zI false [])&&emS ByteArray.empty)&&decide ((0:Int)=0)=true;rw[hz];rfl
     exact e
    ·exact⟨by decide+kernel,by show ¬(0:Int)=6;decide⟩
   have hct:ctn h v (itZ h v)=true:=by
    have hb:=itcB_iff.1 b;unfold ctn itZ;by_cases k3:(zU h v).kind=3
    ·rw[Ab k3,Ab (.inl k3)];show(decide ((2:Int)=2)&& !decide (((zU h v).keys.length:Int)<0))=true;rw[Ca (show ¬((zU h v).keys.length:Int)<0 by omega)];rfl
    ·by_cases k4:(zU h v).kind=4
     ·rw[Aa k3,Ab k4,Ab (.inr k4)];show(decide ((2:Int)=2)&& !decide (((zU h v).keys.length:Int)<0))=true;rw[Ca (show ¬((zU h v).keys.length:Int)<0 by omega)];rfl
     ·rw[Aa k3,Aa k4,Aa (show ¬((zU h v).kind=3\/(zU h v).kind=4) by omega)];by_cases k0:(zU h v).kind=0
      ·rw[Ab k0];have:v.k=4\/v.k=5:=by omega
       rcases this with e|e<;>rw[e]<;>rfl
      ·rw[Aa k0];have:(zU h v).kind=1\/(zU h v).kind=2\/(zU h v).kind=5:=by
        rcases hb with e|e|e|e|e|e|e
        ·exact absurd e k3
        ·exact absurd e k4
        ·exact .inl e
        ·exact .inr (.inl e)
        ·exact .inr (.inr e)
        ·exact absurd (cQ0 (h:=h) (.inl e)) k0
        ·exact absurd (cQ0 (h:=h) (.inr e)) k0
       rcases this with e|e|e<;>rw[e]<;>rfl
   have G:Good h v (itZ h v) 0:=⟨qF0 vv,uF vv,hzz.1,hzz.2,Int.le_refl _,by decide,hct⟩;have E:Ge.Ge h (h++[itO v (itZ h v) 0]):=Ge.app;have ea:yI (h++[itO v (itZ h v) 0]) ((h.length:Nat):Int)=itO v (itZ h v) 0:=by
    show(h++[itO v (itZ h v) 0]).getD h.length ob0=_;rw[Ac];simp
   have g':Uh (h++[itO v (itZ h v) 0]):=Ge.uh_app g om (Ge.code_of g.lo (by rw[ea];exact jB1 (E.isO (is0 g)) (G.mono E (Int.le_refl _) de)));have el:(h++[itO v (itZ h v) 0]).length=h.length+1:=by rw[Af];rfl
   have hrf:uB (h++[itO v (itZ h v) 0]) (rfV (h.length:Nat))=true:=by
    unfold uB;have h1:qB (rfV (h.length:Nat))=true:=by
     unfold qB rfV;simp only[];rfl
    rw[h1,Ds,Cl];right;refine gJ1 ⟨by show(0:Int)<=((h.length:Nat):Int);omega,by show((h.length:Nat):Int).toNat<_;rw[el,Ah];omega⟩ ?_;show(yI (h++[itO v (itZ h v) 0]) ((h.length:Nat):Int)).kind≠0;rw[ea];exact(by decide:(16:Int)≠0)
   have hvi:VlIn (rfV (h.length:Nat)):=⟨(by decide:(-9223372036854775808:Int)<=6),(by decide:(6:Int)<=9223372036854775807),(by show-9223372036854775808<=((h.length:Nat):Int);omega),(by show((h.length:Nat):Int)<=9223372036854775807;omega),(fun _ h=>by cases h),(fun _ h=>by cases h),(by decide:0<=2000000),(by decide:0<=2000000),(by decide:ByteArray.empty.size<=2000000)⟩;refine⟨bG0 ⟨hvi,fun _=>by show((h.length:Nat):Int)<_;rw[el];omega⟩,?_⟩;have hc2:cO (itO v (itZ h v) 0)<=100000:=by
    have e:cO (itO v (itZ h v) 0)=120+10*0+0+23*0+23*0+cVs []+cVs [v,itZ h v]:=rfl;have q1:=cV_v (qF0 vv);have q2:=cV_v hzz.1;have e2:cVs [v,itZ h v]=(cV v+(cV (itZ h v)+0))+1:=rfl;have e3:cVs []=1:=rfl;omega
   exact⟨g',hp_app hh om (pP0 vi hzi de),by rw[cH_app];omega,by rw[el];omega,pQ E vv,vi,pQ E mv,mi,hrf,hvi⟩
  ·by_cases s:(spS h v gV).2.2=true
   ·rw[(it_3 c b s).1,(it_3 c b s).2];exact⟨gU1 g hh vi vv _,r0 v vv vi⟩
   ·rw[(it_4 c b s).1,(it_4 c b s).2];exact⟨vK1 de de (cV0 g vv de),r0 v vv vi⟩
end Iz
end Go.Proofs.YtpmjepoceakikaaGreatDoor
