/-Part 31 of the proof. -/
import Derived.Test.YtammfbdgjnkolaaGreatDoorM30
namespace Go.Proofs.YtammfbdgjnkolaaGreatDoor
open Go.RowKit
variable{md me:Bool}
structure Skc(h:List Ob)(l:List Vl):Prop where
 hc:HpC h
 hn:h.length<=2000000
 vc:∀v∈l,VlC h.length v
 ln:l.length<=2000000
 cost:cVs l+cH h<=1073741824
theorem cOs_le{h:List Ob}{m:Nat}(hm:m<=h.length):cOs h (List.range m)<=cH h:=cN List.nodup_range fun n hn=>by have:=Ct.1 hn;omega
theorem cOs_succ(h:List Ob)(m:Nat):cOs h (List.range (m+1))=cOs h (List.range m)+cO (h.getD m ob0):=by
 rw[cOs,cOs,Ec,Ad,Es,List.map_singleton,List.sum_singleton]
theorem SkI.nil(b:Int)(N:Nat):SkI b N ⟨[],[]⟩:=⟨(fun _ h=>by cases h),List.nodup_nil⟩
theorem Rn.cost{b:Int}{e:Bool}{h:List Ob}{m C:Nat}{kf:Skt}(x:Rn b e h m C kf)(hi:x.i<x.k.ord.length)(hm:(m:Int)<=b)(hm2:m<=h.length):x.k.out.length+cO (h.getD (x.k.ord.getD x.i 0).toNat ob0)<=C+cH h:=by
 have h1:=x.len;have h2:=dQ0 (i:=x.i+1) x.inv hm hm2;have e0:x.k.ord.getD x.i 0=x.k.ord[x.i]:=by rw[Af,Ac hi];rfl
 rw[List.take_add_one,Ac hi]at h2;rw[e0];simp only[cOs,Ad,Es,Option.toList_some,Bw,List.map_nil,Cn,List.sum_nil,Option.getD_some]at h1 h2⊢;omega
structure Bs(n:Nat)(h:List Ob)(k0:Skt)where
 i:Nat
 le:i<=min n h.length
theorem xV1{P:Program}{E:Pn}{K:DS->Prop}{p:Prop}{r:Out}(hr:r.sat P E K)(hp:p:=by first|exact⟨rfl,by show _<y.k.ord.length;omega⟩|rfl|(simp only[MR.len,An];done)|(simp only[MR.len,An];omega)|exact Fa):(Out.need p r).sat P E K:=⟨hp,hr⟩
set_option maxHeartbeats 2000000 in
theorem qU0(a:List Ob)(n:Nat)(l:List Vl)(hs:Skc a l)(hn:n<=2000000):Fx 38 [hpD me a,.v (.int .i64 n),.sl false 7 l vlD vl0] (.v (.string (tJ a n l))):=by
 have hc:=hs.cost;have hal:=hs.hn;have hb0:(0:Int)<=(n:Nat):=by omega
 have hN0:a.length<=1000000000:=by omega
 have v1:=qQ1 (SkI.nil (n:Nat) a.length) hb0 hN0 hs.vc;have v2:=v1.len;have v3:(⟨[],[]⟩:Skt).out.length=0:=rfl;have hm2:min n a.length<=a.length:=Nat.min_le_right _ _;have hm1:((min n a.length:Nat):Int)<=(n:Nat):=by have:=Nat.min_le_left n a.length;omega
 have b1:=kY0 (e:=true) v1.inv hb0 hN0 hs.hc hm2;refine yD zJ Tryz.func38 rfl rfl rfl rfl rfl rfl ?_;intros;refine zK 100 ?_;refine zK 200 ?_;refine vN 103 2 3 1 rfl rfl ?_;refine vN 103 3 5 1 rfl rfl ?_;refine zQ0 200 rfl ?_;refine zQ0 201 rfl ?_;refine yL [1,2,3,7] [0] 212 [] [(103,.box 124 [.sl me 10 a obD ob0,.v (.int .i64 (n:Nat)),.mo 200 ((⟨[],[]⟩:Skt)).ord.length,.mo 201 ((⟨[],[]⟩:Skt)).out.length]),(200,.mrow 3 1 (.map ((⟨[],[]⟩:Skt)).ord iD 0)),(201,.mrow 5 1 (.map ((⟨[],[]⟩:Skt)).out u8D 0))] ?_;refine⟨⟨yG,⟨⟨rfl,u0 _,rfl,u0 _,rfl,Sub.mo (rfl),rfl,Sub.mo (rfl),rfl,trivial⟩,SubO.mp (rfl),SubO.mp (rfl),yF⟩,rfl,rfl⟩,?_⟩;refine zB (zE zJ [1016] 300 rfl ?_);refine zF ?_;refine yO _ _ (pH a (n:Nat) a.length ⟨[],[]⟩ l hb0 hN0 (SkI.nil _ _) hs.vc om hs.ln) rfl ?_;refine zF ?_;refine zC (zA (zB (zK 400 ?_)));refine zP ?_;refine yC (ι:=Bs n a (Skt.vs (n:Nat) ⟨[],[]⟩ l)) [1,3,7] [0] 450 (fun x=>[(8,.v (.int .i64 x.i))]) (fun x=>[(103,.box 124 [.sl me 10 a obD ob0,.v (.int .i64 (n:Nat)),.mo 200 (Skt.base (n:Nat) true a (Skt.vs (n:Nat) ⟨[],[]⟩ l) x.i).ord.length,.mo 201 (Skt.base (n:Nat) true a (Skt.vs (n:Nat) ⟨[],[]⟩ l) x.i).out.length]),(200,.mrow 3 1 (.map (Skt.base (n:Nat) true a (Skt.vs (n:Nat) ⟨[],[]⟩ l) x.i).ord iD 0)),(201,.mrow 5 1 (.map (Skt.base (n:Nat) true a (Skt.vs (n:Nat) ⟨[],[]⟩ l) x.i).out u8D 0))]) (fun x=>a.length-x.i) ⟨0,Aq _⟩ ?_;refine⟨⟨⟨u21 rfl,yG⟩,⟨⟨rfl,u0 _,rfl,u0 _,rfl,Sub.mo (rfl),rfl,Sub.mo (rfl),rfl,trivial⟩,SubO.mp (rfl),SubO.mp (rfl),yF⟩,rfl,rfl⟩,fun x=>?_⟩;have hk0:=x.le;refine zB (zK 500 ?_);refine zU rfl (fun c4=>?_) (fun c4=>?_)
 ·have hlt:x.i<n/\x.i<a.length:=by simpa using c4
  have b2:=kY0 (e:=true) v1.inv hb0 hN0 hs.hc (m:=x.i) om;have b3:=b2.len;have b4:=cOs_le (h:=a) (m:=x.i+1) om;rw[cOs_succ]at b4;refine zM (zA (zB (zP ?_)));refine zE zJ [1031] 700 rfl ?_;refine zF ?_;refine yO _ _ (cH0 a (n:Nat) (Skt.base (n:Nat) true a (Skt.vs (n:Nat) ⟨[],[]⟩ l) x.i) (x.i:Nat) true hb0 hN0 hs.hc om om b2.inv (by rw[Ak];omega)) rfl ?_;refine zF ?_;refine zC (zN (zA (yM zJ [] 800 ?_)));have hN:=xP0 (n:Nat) true a (Skt.vs (n:Nat) ⟨[],[]⟩ l) x.i;exact zS ⟨x.i+1,by omega⟩ ⟨⟨u21 (by push_cast;rfl),yG⟩,⟨⟨rfl,u0 _,rfl,u0 _,rfl,Sub.mo (congrArg (fun k:Skt=>k.ord.length) hN).symm,rfl,Sub.mo (congrArg (fun k:Skt=>k.out.length) hN).symm,rfl,trivial⟩,SubO.mp (congrArg (fun k:Skt=>D.pvss (k.ord.map iD)) hN).symm,SubO.mp (congrArg (fun k:Skt=>D.pvss (k.out.map u8D)) hN).symm,yF⟩,rfl,rfl⟩ (by show a.length-(x.i+1)<a.length-x.i;omega)
 ·have hke:x.i=min n a.length:=by have:=x.le;simp at c4;omega
  refine yE (yA (yB (zY (zA (zB (zK 800 ?_))))));refine zP ?_;refine yC (ι:=Rn (n:Nat) true a (min n a.length) (cVs l) (Skt.run (n:Nat) true a a.length 0 (Skt.base (n:Nat) true a (Skt.vs (n:Nat) ⟨[],[]⟩ l) (min n a.length)))) [7] [] 850 (fun y=>[(9,.v (.int .i64 y.i))]) (fun y=>[(103,.box 124 [.sl me 10 a obD ob0,.v (.int .i64 (n:Nat)),.mo 200 (y.k).ord.length,.mo 201 (y.k).out.length]),(200,.mrow 3 1 (.map (y.k).ord iD 0)),(201,.mrow 5 1 (.map (y.k).out u8D 0))]) (fun y=>a.length-y.i) (Rn.start true (Skt.base (n:Nat) true a (Skt.vs (n:Nat) ⟨[],[]⟩ l) (min n a.length)) b1.inv (by have:=b1.len;omega)) ?_;refine⟨⟨⟨u21 rfl,yG⟩,⟨⟨rfl,u0 _,rfl,u0 _,rfl,Sub.mo (by rw[hke];rfl),rfl,Sub.mo (by rw[hke];rfl),rfl,trivial⟩,SubO.mp (by rw[hke];rfl),SubO.mp (by rw[hke];rfl),yF⟩,rfl,rfl⟩,fun y=>?_⟩;have yl:=y.inv.len hb0;have yo:=y.le;have yb:=y.bound hm1 hm2;refine zB (zK 900 ?_);refine zU rfl (fun c8=>?_) (fun c8=>?_)
  ·have hlt2:y.i<y.k.ord.length:=by simpa using c8
   have y1:=y.at hlt2;have y2:=y.cost hlt2 hm1 hm2;refine zM (zA (zB (zP ?_)));refine zE zJ [1049] 1100 rfl ?_;repeat(first|refine zH ?_|refine xV1 ?_)
   refine yO _ _ (cH0 a (n:Nat) y.k (y.k.ord.getD y.i 0) true hb0 hN0 hs.hc om y1.2 y.inv om) rfl ?_;repeat(first|refine zH ?_|refine xV1 ?_)
   refine zC (zN (zA (yM zJ [] 1200 ?_)));exact zS (y.next hlt2 hb0 hN0 hs.hc) ⟨⟨u21 (by show(y.i:Int)+1=((y.i+1:Nat):Int);push_cast;rfl),yG⟩,⟨⟨rfl,u0 _,rfl,u0 _,rfl,Sub.mo (rfl),rfl,Sub.mo (rfl),rfl,trivial⟩,SubO.mp (rfl),SubO.mp (rfl),yF⟩,rfl,rfl⟩ (by show a.length-(y.i+1)<a.length-y.i;omega)
  ·have hfe:=y.fin (by simpa using c8);refine yE (yA (yB (zY (zA ?_))));refine qT 201 rfl (by repeat(first|exact trivial|exact rfl|refine⟨?_,?_⟩)) (by repeat(first|exact trivial|exact(fun _=>rfl)|exact(fun h=>absurd h (by decide))|exact rfl|refine⟨?_,?_⟩)) ?_;refine zB (zE zJ [] 1200 rfl ?_);repeat(first|refine zH ?_|refine zW (by first|rfl|exact(congrArg (List.map u8D) (kC _)).symm|exact Fa) ?_)
   refine zC (zA (zL ?_));exact u4 rfl (SubP.str (by unfold tJ;exact(congrArg (fun l:List UInt8=>(⟨l.toArray⟩:ByteArray)) (kC _)).trans (congrArg (fun k:Skt=>(⟨k.out.toArray⟩:ByteArray)) hfe)))
variable{md me:Bool}
def plnD(l:List St)(s:St):D:= .agg (stsD l::stD s)
variable{md me:Bool}
def byV(t:ByteArray):Vl:=⟨5,false,[],false,[],t,0⟩
theorem SubP.ownRows{α:Type}{k sz:Nat}{rows:List (List D)}{l:List α}{f:α->List D}{e:α}(h:RowsP rows (l.map f)):SubP (.own k sz rows) (.sl false sz l f e):=fun w s v hv=>by
 have h1:=jK0 h hv;rw[yS,Cw]at h1;exact h1
def spV(s:St):List Vl:=nuV s.k::nuV s.c::byV s.s::s.v::s.w::s.l
def spW(s:St):List Vl:=nuV (s.l.length:Nat)::spV s
def pvS(L:List St):List Vl:=L.flatMap spW
structure StI(s:St):Prop where
 k1: -9223372036854775808<=s.k
 k2:s.k<=9223372036854775807
 c1: -9223372036854775808<=s.c
 c2:s.c<=9223372036854775807
 l:s.l.length<=1000000
theorem cQ{s:St}(h:StI s):(spW s).length<=1000006:=by
 have:=h.l;show s.l.length+1+1+1+1+1+1<=_;omega
theorem cQ0:∀{L:List St},(∀s∈L,StI s)->(pvS L).length<=L.length*1000006
 |[],_=>Aq _
 |s::L,h=>by
  have h1:=cQ (h s Bc);have h2:=cQ0 (L:=L) fun x hx=>h x (Be _ hx);rw[pvS,List.flatMap_cons,Ae,Am];rw[pvS]at h2;omega
theorem pC0{L:List St}{i:Nat}(h:i<L.length):pvS (L.take (i+1))=pvS (L.take i)++spW (L.getD i st0):=by
 rw[List.take_add_one,Ac h,Af,Ac h,pvS,pvS,List.flatMap_append];simp
theorem st_at{L:List St}{i:Nat}(h:i<L.length)(hL:∀s∈L,StI s):StI (L.getD i st0):=by
 rw[Af,Ac h];exact hL _ (Cj _)
noncomputable def jJ1 (h a:List Ob) (l:List St) (s:St) (b:List Ob) (l':List St) (s':St):Bool:=(decide ((h.length:Int)<=(a.length:Int))&&decide ((l.length:Int)=(l'.length:Int)))&&decide (tJ a h.length (pvS (s::l))=tJ b h.length (pvS (s'::l')))
theorem wA1{P:Program}{E:Pn}{K:DS->Prop}{p:Prop}{r:Out}(hr:r.sat P E K)(hp:p:=by first|exact qX (by have:=hs.l;omega)|(simp only[An,Am,Au];have:=hs.l;omega)|exact Fa):(Out.need p r).sat P E K:=⟨hp,hr⟩
theorem StepValues_ok(s:St)(hs:StI s):Fx 91 [.agg (stD s)] (.sl false 7 (spV s) vlD vl0):=by
 refine yD zJ Tryz.func91 rfl rfl rfl rfl rfl rfl ?_;intros;refine zK 100 ?_;refine zB (zX zJ [16,19] [[],[0],[0,1],[],[3],(rgN 5),[],[6],[6,7],[],[9],[],[11],(rgN 13),[],[14],(rgN 16),(rgN 17)] 200 yP kr rfl ?_);repeat(first|refine zH ?_|refine wA1 ?_)
 refine zQ _ (N_ok s.k hs.k1 hs.k2) rfl ?_;repeat(first|refine zH ?_|refine wA1 ?_)
 refine zQ _ (N_ok s.c hs.c1 hs.c2) rfl ?_;repeat(first|refine zH ?_|refine wA1 ?_)
 refine zC (zA (zL ?_));exact u4 rfl (SubP.ownRows (by exact⟨SubPs.refl _,SubPs.refl _,⟨u6 _,u6 _,u12 rfl,u6 _,u12 rfl,u6 _,u6 _,trivial⟩,SubPs.refl _,SubPs.refl _,RowsP.refl _⟩))
theorem xU1{P:Program}{E:Pn}{K:DS->Prop}{p:Prop}{r:Out}(hr:r.sat P E K)(hp:p:=by first|(simp only[An,Am,Au];omega)|exact Fa):(Out.need p r).sat P E K:=⟨hp,hr⟩
theorem xT1{P:Program}{E:Pn}{K:DS->Prop}{p:Prop}{r:Out}(hr:r.sat P E K)(hp:p:=by first|(simp only[Ae,An,Am,Au];have:(spV ((s::l).getD x.1 st0)).length+1=(spW ((s::l).getD x.1 st0)).length:=rfl;omega)|exact Fa):(Out.need p r).sat P E K:=⟨hp,hr⟩
theorem dE(l:List St)(s:St)(hl:l.length<=1000)(hs:∀t∈s::l,StI t):Fx 39 [plnD l s] (.sl false 7 (pvS (s::l)) vlD vl0):=by
 have hL:(s::l).length=l.length+1:=rfl;refine yD zJ Tryz.func39 rfl rfl rfl rfl rfl rfl ?_;intros;refine zK 100 ?_;refine zK 200 ?_;refine yY 3 29 7 rfl ?_;refine zB ?_;refine zB (zE zJ [8,11] 300 rfl ?_);repeat(first|refine zH ?_|refine zW (by first|exact qX (by omega)|(simp only[An,Am,Au];omega)|exact Fa) ?_)
 refine zC (zA ?_);refine yL [3,12,13] [200] 310 [(11,.sl false 18 (s::l) stD st0)] [] ?_;refine⟨⟨⟨u5 rfl,yG⟩,yF,rfl,rfl⟩,?_⟩;refine zP ?_;refine yC (ι:={i:Nat//i<=(s::l).length}) [11,12] [] 350 (fun x=>[(13,.v (.int .i64 x.1)),(3,.own 200 7 ((pvS ((s::l).take x.1)).map vlD))]) (fun x=>[(200,.row 29 7 ((pvS ((s::l).take x.1)).map vlD).length)]) (fun x=>(s::l).length-x.1) ⟨0,Aq _⟩ ?_;refine⟨⟨yG,yF,rfl,rfl⟩,fun x=>?_⟩;have hk0:x.1<=(s::l).length:=x.2;refine zK 400 ?_;refine zB (zU rfl (fun c3=>?_) (fun c3=>?_))
 ·have hlt:x.1<(s::l).length:=by simp at c3⊢;omega
  have hsi:=st_at hlt hs;have hsl:=hsi.l;have hp1:=cQ0 (L:=(s::l).take x.1) (fun t ht=>hs t (Cu ht));rw[As]at hp1;have hp2:min x.1 (s::l).length<=1000:=by omega
  have hp3:=cQ hsi;refine zM (zA (zB (zP (zK 500 ?_))));refine yL [3,5,11,12,13] [200,402] 510 [] [(402,.box 35 (stD ((s::l).getD x.1 st0)))] ?_;refine⟨⟨yG,⟨⟨rfl,SubL.same rfl⟩,yF⟩,rfl,rfl⟩,?_⟩;refine zB (zE zJ [] 600 rfl ?_);repeat(first|refine zH ?_|refine xU1 ?_)
  refine zQ _ (N_ok (((s::l).getD x.1 st0).l.length:Nat) om om) rfl ?_;repeat(first|refine zH ?_|refine xU1 ?_)
  refine zC (zA ?_);refine zE zJ [] 700 rfl ?_;repeat(first|refine zH ?_|refine xT1 ?_)
  refine zQ _ (StepValues_ok ((s::l).getD x.1 st0) hsi) rfl ?_;repeat(first|refine zH ?_|refine xT1 ?_)
  refine zC (zN (zA (yM zJ [] 800 ?_)));exact zS ⟨x.1+1,by omega⟩ ⟨⟨u21 (by push_cast;rfl),Sub.own (by rw[pC0 hlt,Ad,Cg];rfl),yG⟩,⟨⟨rfl,rfl,by rw[pC0 hlt];simp only[Ae,An,Am,Au];have:(spW ((s::l).getD x.1 st0)).length=(spV ((s::l).getD x.1 st0)).length+1:=rfl;omega⟩,yF⟩,rfl,rfl⟩ (by show(s::l).length-(x.1+1)<(s::l).length-x.1;omega)
 ·have hke:x.1=(s::l).length:=by simp at c3;omega
  refine yE (yA (yB (zY (zA (zK 900 ?_)))));refine zL ?_;exact u4 rfl (SubP.ownSl (by rw[Ai om]))
theorem gO(h a:List Ob)(l:List St)(s:St)(b:List Ob)(l':List St)(s':St)(hh:h.length<=2000000)(hl:l.length<=1000)(hl':l'.length<=1000)(hs:∀t∈s::l,StI t)(hs':∀t∈s'::l',StI t)(ha:Skc a (pvS (s::l)))(hb:Skc b (pvS (s'::l'))):Fx 8 [hpD md h,hpD me a,plnD l s,hpD me b,plnD l' s'] (.v (.bool (jJ1 h a l s b l' s'))):=by
 refine yD zJ Tryz.func8 rfl rfl rfl rfl rfl rfl ?_;intros;refine zK 100 ?_;refine zK 200 ?_;refine zB (zX zJ [] [[],[0],[0,1],[],[0,1,2,3],(rgN 5),(rgN 6),(rgN 7),(rgN 8),(rgN 6),[0,1,2,3,4,5,9],[0,1,2,3,4,5,9,10],(rgN 12),(rgN 13),(rgN 14),(rgN 15),(rgN 15),(rgN 15),[0,1,2,3,4,5,6,7,8,9,10,11,12,13,14,17],(rgN 19),(rgN 15),(rgN 15),(rgN 15),[0,1,2,3,4,5,6,7,8,9,10,11,12,13,14,15,16,17,18,19,22],(rgN 24),(rgN 25),(rgN 26),(rgN 27)] 300 yP kr rfl ?_);refine zF ?_;refine yR _ (fun hg18=>dE l s hl hs) rfl ?_;refine zF ?_;refine yR _ (fun hg19=>qU0 a h.length _ ha hh) rfl ?_;refine zF ?_;refine yR _ (fun hg23=>dE l' s' hl' hs') rfl ?_;refine zF ?_;refine yR _ (fun hg24=>qU0 b h.length _ hb hh) rfl ?_;refine zf (zA (zL ?_));exact u4 rfl (u7 (by unfold jJ1;simp[Bool.and_assoc]))
variable{md me:Bool}
theorem att_yes{h:List Ob}{v:Vl}{s:ByteArray}{l:List Vl}(c:((0:Int)<((jX h v s l).length:Nat))):(zT h v).kind=10:=by
 unfold jX at c;split at c
 ·rename_i e;unfold spS at e;split at e
  ·exact absurd e de
  ·rename_i h1;exact Classical.not_not.1 h1
 ·simp at c
theorem qE1{h:List Ob}{v:Vl}{s:ByteArray}{l:List Vl}(c:¬((0:Int)<((jX h v s l).length:Nat))):jX h v s l=[]:=Bm om
theorem vX{h:List Ob}{v:Vl}{s:ByteArray}{l:List Vl}(c:¬(zT h v).kind=10):jX h v s l=[]:=by
 unfold jX spS;rw[Ab c];rfl
theorem cL0{h:List Ob}{v x:Vl}(c:¬(zT h v).kind=3/\¬((v.k=4\/v.k=5)\/(zT h v).kind=1\/(zT h v).kind=2\/(zT h v).kind=5)):sbS h v x=sbN h v sbI:=(Aa c.1).trans ((Aa om).trans (Aa om))
theorem in_45{h:List Ob}{v:Vl}(c:(zT h v).kind=10):¬(v.k=4\/v.k=5):=fun e=>by rw[pM0 e]at c;exact absurd c de
theorem sbK_1{h:List Ob}{v:Vl}:sbK h v=1↔((v.k=4\/v.k=5)\/(zT h v).kind=1\/(zT h v).kind=2\/(zT h v).kind=5):=by
 unfold sbK;split
 ·exact⟨fun _=>by assumption,fun _=>rfl⟩
 ·split<;>(constructor<;>intro h9<;>first|contradiction|omega)
theorem wP1{h:List Ob}{v:Vl}(c:¬sbK h v=1):sbK h v=2↔(zT h v).kind=3:=by
 unfold sbK at*;split at c
 ·exact absurd rfl c
 ·rename_i h1;rw[Aa h1];split<;>(constructor<;>intro h9<;>first|contradiction|omega)
set_option maxHeartbeats 2000000 in
theorem opItem_G(h:List Ob)(v x:Vl)(hh:HpIn h)(g:Uh h)(hvv:Vd h v)(hxx:Vd h x)(hiv:VlIn v)(hix:VlIn x)(hr:(zT h v).kind=5->RgO (zT h v)):FnG Tryz.prog 6 [.bp 0 0,.agg (vlD v),.agg (vlD x)] (hpO h) (plnD (jX h v uG [x]) (sbS h v x)) (hpO h):=by
 have hcf:=yV0 g (mE hvv);have hnm:=(hh.at (clA h v)).nm;have hkl:=uO g v;refine uE zJ Tryz.func6 rfl rfl rfl rfl rfl rfl rfl ?_;intros;refine zK 100 ?_;refine zB ?_;refine zB (zX zJ [] [[],[0],[0,1],[],[],[4],(rgN 6),(rgN 7)] 200 yP kr rfl ?_);refine zF ?_;refine yZ _ ((kD h v uG [x] hh g hvv.2 (by show 1<=1000000;decide)).args ⟨u6 _,u6 _,u6 _,u18 rfl,trivial⟩) rfl rfl ?_;refine zF ?_;refine zC (zA (zK 300 ?_));refine zU rfl (fun c2=>?_) (fun c2=>?_)
 ·have c2:(0:Int)<((jX h v uG [x]).length:Nat):=Ag c2;refine zB (zX zJ [] [[],[],[1],[1,2],[],[1,2,3,4],(rgN 6),(rgN 7)] 400 yP kr rfl ?_);refine zF ?_;refine yZ _ (wU h v sbI g hcf hnm de) rfl rfl ?_;refine zf (zA (zL (zO ?_)));have hkk:=att_yes c2;have h45:=in_45 hkk;rw[show sbS h v x=sbN h v sbI from cL0 om];exact u11 2 rfl rfl (Sub.ofP (u20 ⟨u6 _,(SubPs.refl _)⟩) rfl rfl) ⟨⟨rfl,Sub.mo (by simp),rfl,trivial⟩,SubO.mp rfl,trivial⟩
 ·have c2:¬(0:Int)<((jX h v uG [x]).length:Nat):=of_decide_eq_false c2;refine zM (zA (zB ?_));refine zB (zX zJ [] [[],[0],[0,1],[],[0,1,2,3]] 500 yP kr rfl ?_);refine zF ?_;refine yZ _ (opKindOf_ok h v hvv.2) rfl rfl ?_;refine zF ?_;refine zC (zA (zP (zK 600 ?_)));refine zU rfl (fun c5=>?_) (fun c5=>?_)
  ·have c5:sbK h v=1:=Ag c5;refine zB (zE zJ [1035] 700 rfl ?_);refine zF ?_;refine yO _ _ (opElement_G h v x hh g hvv hiv hix.nl hxx.1 hr (sbK_1.1 c5)) (yY1 _ _) ?_;refine zf (zA (zL (zR (zO ?_))));rw[qE1 c2];exact u11 2 rfl rfl (Sub.ofP (u20 ⟨u12 rfl,(SubPs.refl _)⟩) rfl rfl) ⟨⟨rfl,Sub.mo (by simp),rfl,trivial⟩,SubO.mp rfl,trivial⟩
  ·have c5:¬sbK h v=1:=of_decide_eq_false c5;refine zK 800 ?_;refine zU rfl (fun c7=>?_) (fun c7=>?_)
   ·have c7:sbK h v=2:=Ag c7;refine zB (zX zJ [] [[],[0],[0,1],[],[],(rgN 5),(rgN 6),(rgN 7)] 900 yP kr rfl ?_);refine zF ?_;refine yZ _ (zD0 h v x hh g hvv.2 ((wP1 c5).1 c7) hxx) rfl rfl ?_;refine zf (zA (zL (zR (zO ?_))));rw[qE1 c2,show sbS h v x=sbL h v x from Ab ((wP1 c5).1 c7)];exact u11 2 rfl rfl (Sub.ofP (u20 ⟨u12 rfl,(SubPs.refl _)⟩) rfl rfl) ⟨⟨rfl,Sub.mo (by simp),rfl,trivial⟩,SubO.mp rfl,trivial⟩
   ·have c7:¬sbK h v=2:=of_decide_eq_false c7;refine zM (zN (zA ?_));refine zB (zX zJ [] [[],[0],[0,1],[],[0,1,2,3],(rgN 5),(rgN 6)] 1000 yP kr rfl ?_);refine zF ?_;refine yZ _ (wU h v sbI g hcf hnm de) rfl rfl ?_;refine zf (zA (zL ?_));rw[qE1 c2,show sbS h v x=sbN h v sbI from cL0 ⟨fun e=>c7 ((wP1 c5).2 e),fun e=>c5 (sbK_1.2 e)⟩];exact u11 2 rfl rfl (Sub.ofP (u20 ⟨u12 rfl,(SubPs.refl _)⟩) rfl rfl) ⟨⟨rfl,Sub.mo (by simp),rfl,trivial⟩,SubO.mp rfl,trivial⟩
theorem refMissing_ok(k:Vl):Fx 26 [.agg (vlD k)] (.agg (stD (miS k))):=by
 refine yD zJ Tryz.func26 rfl rfl rfl rfl rfl rfl ?_;intros;refine zK 100 ?_;refine zK 200 ?_;refine zL ?_;exact u4 rfl (u20 (by repeat(first|exact trivial|exact u6 _|exact u12 rfl|exact u18 rfl|refine⟨?_,?_⟩)))
theorem refParts_ok(h:List Ob)(v:Vl):Fx 83 [hpD md h,.agg (vlD v)] (.tup [.v (.string v.s),vsD (zT h v).items,.v (.bool ((((decide (v.k=4)||decide (v.k=5))||decide ((zT h v).kind=1))||decide ((zT h v).kind=2))))]):=by
 refine yD zJ Tryz.func83 rfl rfl rfl rfl rfl rfl ?_;intros;refine zK 100 ?_;refine zB (zE zJ [] 200 rfl ?_);refine zF ?_;refine zQ _ (jL h v) rfl ?_;refine zf (zA ?_);refine zB (zX zJ [] [[],[0],[],[2],[],[4],[4,5],[4,5,6],[4,5,6,7],[4,5,6,7,8],[4,5,6,7,8,9],[4,5,6,7,8,9,10],[4,5,6,7,8,9,10,11],[4,5,6,7,8,9,10,11,12],[4,5,6,7,8,9,10,11,12,13],[4,5,6,7,8,9,10,11,12,13,14],[4,5,6,7,8,9,10,11,12,13,14,15],[4,5,6,7,8,9,10,11,12,13,14,15,16],[4,5,6,7,8,9,10,11,12,13,14,15,16,17],[4,5,6,7,8,9,10,11,12,13,14,15,16,17,18],[4,5,6,7,8,9,10,11,12,13,14,15,16,17,18,19],[4,5,6,7,8,9,10,11,12,13,14,15,16,17,18,19,20],[0,1,4,5,6,7,8,9,10,11,12,13,14,15,16,17],[0,1,2,3,4,5,6,7,8,9,10,11,12,13,14,15,16,17,22],(rgN 24)] 300 yP kr rfl ?_);refine zf (zA (zL ?_));exact u4 rfl (u19 ⟨u6 _,u6 _,u7 (by simp[Bool.or_assoc]),trivial⟩)
theorem refSequence_ok(h:List Ob)(v:Vl):Fx 33 [hpD md h,.agg (vlD v)] (.v (.bool (((((decide (v.k=4)||decide (v.k=5))||decide ((zT h v).kind=1))||decide ((zT h v).kind=2)))||decide ((zT h v).kind=5)))):=by
 refine yD zJ Tryz.func33 rfl rfl rfl rfl rfl rfl ?_;intros;refine zK 100 ?_;refine zB (zE zJ [] 200 rfl ?_);refine zF ?_;refine zQ _ (refParts_ok h v) rfl ?_;refine zf (zA ?_);refine zB (zE zJ [] 300 rfl ?_);refine zF ?_;refine yR _ (fun hg4=>jL h v) rfl ?_;refine zf (zA (zL ?_));exact u4 rfl (u7 (by simp[Bool.or_assoc]))
theorem el_mul{x:RgN}{n k:Nat}(hc:(dig x.nc).length<=80)(hn:(dig n).length<=k):(dig (x.nc*n)).length<=80+k:=uS0 hc hn
theorem rgElementZ_ok(x:RgN)(b:Bool)(n:Nat)(ha:(dig x.na).length<=80)(hc:(dig x.nc).length<=80)(hn:(dig n).length<=200)(hb:b=true->n=0):Fx 32 [RgN.D x,rD b n] (rD (rgEl x n).1 (rgEl x n).2):=by
 have h1:=el_mul (n:=n) (k:=200) hc hn;have hbb:((x.sc !=b)&&decide (0<x.nc*n))=((x.sc !=false)&&decide (0<x.nc*n)):=by
  cases b with
  |false=>rfl
  |true=>rw[hb rfl];simp
 refine yD zJ Tryz.func32 rfl rfl rfl rfl rfl rfl ?_;intros;refine zK 100 ?_;refine zB (zX zJ [] [[],[0],[],[2],[],[2,3,4],(rgN 6),(rgN 7)] 200 yP kr rfl ?_);refine zF ?_;refine zQ _ (wR x.sc b x.nc n om om) rfl ?_;refine zF ?_;refine zQ _ (jD x.sa _ x.na (x.nc*n) om om) rfl ?_;refine zf (zA (zL ?_));rw[hbb];exact u4 rfl (u6 _)
theorem rgElZ_sz{x:RgN}{n k:Nat}(ha:(dig x.na).length<=80)(hc:(dig x.nc).length<=80)(hn:(dig n).length<=k):(dig (rgEl x n).2).length<=81+k:=by
 have h1:(dig (x.nc*n)).length<=80+k:=uS0 hc hn;have h2:(dig (rgEl x n).2).length<=80+k+1:=zX0 (b1:=x.sa) (b2:=((x.sc !=false)&&decide (0<x.nc*n))) (k:=80+k) (show(dig x.na).length<=80+k by omega) h1;omega
theorem pod_b{v:Vl}{b:Bool}{n:Nat}(hg:Lg v.nl)(hv:qH v=true)(hbn:b=false):(podP v b n).1=true->(podP v b n).2=0:=fun h1=>by
 subst hbn;have h0:=cU0 (v:=v) (b:=false) (n:=n);have h2:=(cV0 (v:=v) (n:=ZI false n) (by show(0:Int)<=(n:Int);omega)).1;rw[<-h0,h1]at h2;have h3:ZI true (podP v false n).2= -((podP v false n).2:Int):=rfl;omega
theorem sbR_y{o:Ob}{x:Vl}(ho:RgO o)(h:¬(poS x (rlO o)).k=1):sbR o x=nuS (rgEl (rgO o) (poQ x (rlO o)).natAbs).1 (rgEl (rgO o) (poQ x (rlO o)).natAbs).2 1:=by
 obtain⟨p0,p1,p2⟩:=(yS0 (v:=x) (n:=rlO o)).resolve_left h;have hk:x.k=2:=by
  by_cases hk:x.k=2
  ·exact hk
  ·rw[show poS x (rlO o)=_ from Ab hk]at h;exact absurd rfl h
 have hb:pxB (pxI x) (rlO o)=true:=by
  by_cases hb:pxB (pxI x) (rlO o)=true
  ·exact hb
  ·rw[show poS x (rlO o)=_ from(Aa (not_not_intro hk)).trans (Aa hb)]at h;exact absurd rfl h
 have hq:poQ x (rlO o)=pxJ (pxI x) (rlO o):=(Ab hk).trans (Ab hb);rw[show sbR o x=_ from(Aa (not_not_intro hk)).trans (Ab hb),<-hq];have e:=rgEl_nu (o:=o) (n:=(poQ x (rlO o)).natAbs);have e2:(((poQ x (rlO o)).natAbs:Nat):Int)=poQ x (rlO o):=by omega
 rw[e2]at e;have hz:(lim (rA o+rC o*poQ x (rlO o)).natAbs).length<=40:=(jS1 ho.siz.1 ho.siz.2.1 ho.siz.2.2.2 p1 p2).1;have hf:(lim (rgEl (rgO o) (poQ x (rlO o)).natAbs).2).length<=40:=by
  have h5:ZI (rgEl (rgO o) (poQ x (rlO o)).natAbs).1 (rgEl (rgO o) (poQ x (rlO o)).natAbs).2=rA o+rC o*poQ x (rlO o):=by
   unfold rgEl;rw[bU0,uR1,e2];rfl
  rw[<-h5,xR]at hz;exact hz
 unfold nuS;rw[Ab (by unfold fitB;rw[Bf om];decide+kernel),raV,Ab rfl,e]
theorem sbR_n{o:Ob}{x:Vl}(h:(poS x (rlO o)).k=1):sbR o x=poS x (rlO o):=by
 by_cases hk:x.k=2
 ·by_cases hb:pxB (pxI x) (rlO o)=true
  ·rw[show poS x (rlO o)=_ from(Aa (not_not_intro hk)).trans (Ab hb)]at h;exact absurd h de
  ·rw[show poS x (rlO o)=_ from(Aa (not_not_intro hk)).trans (Aa hb)];exact(Aa (not_not_intro hk)).trans (Aa hb)
 ·rw[show poS x (rlO o)=_ from Ab hk];exact Ab hk
theorem sb_txt:sbB++sbI2=sbI:=by decide+kernel
theorem rl_Z{o:Ob}(ho:RgO o):ZI (rgO o).cnt.1 (rgO o).cnt.2=rlO o:=by rw[(rl_c ho).1];exact(rl_c ho).2
theorem cT0{v:Vl}{b:Bool}{n:Nat}:(podP v b n).2=(poQ v (ZI b n)).natAbs:=by rw[<-cU0,xR]
theorem xS1{P:Program}{E:Pn}{K:DS->Prop}{p:Prop}{r:Out}(hr:r.sat P E K)(hp:p:=by first|exact⟨by omega,by omega⟩|exact⟨by omega,by rw[An];omega⟩|exact Fa):(Out.need p r).sat P E K:=⟨hp,hr⟩
theorem xR1{P:Program}{E:Pn}{K:DS->Prop}{p:Prop}{r:Out}(hr:r.sat P E K)(hp:p:=by first|exact⟨hpo.2.1,by omega⟩|exact⟨hpo.2.1,by rw[An];omega⟩|exact Fa):(Out.need p r).sat P E K:=⟨hp,hr⟩
set_option maxHeartbeats 2000000 in
theorem vW0(h:List Ob)(v x:Vl)(hh:HpIn h)(g:Uh h)(hvv:Vd h v)(hxx:Vd h x)(hiv:VlIn v)(hix:VlIn x)(hr:(zT h v).kind=5->RgO (zT h v)):FnG Tryz.prog 7 [.bp 0 0,.agg (vlD v),.agg (vlD x)] (hpO h) (plnD (jX h v uG [x]) (sbS h v x)) (hpO h):=by
 have hcf:=yV0 g (mE hvv);have hnm:=(hh.at (clA h v)).nm;have hkl:=uO g v;have k0:(v.k=4\/v.k=5)->(zT h v).kind=0:=pM0;have hel:=yO1 (h:=h) (v:=v);have h01:=pV0 g hxx;refine uE zJ Tryz.func7 rfl rfl rfl rfl rfl rfl rfl ?_;intros;refine zK 100 ?_;refine zB (zX zJ [] mK1 200 yP kr rfl ?_);refine zF ?_;refine yZ _ (jL h v) rfl rfl ?_;refine zF ?_;refine zC (zA (zB (zP (zK 300 ?_))));refine zU rfl (fun c2=>?_) (fun c2=>?_)
 ·have c2:(zT h v).kind=3:=by simpa using c2
  have ka:=bX0 g hvv.2 om;have hil:=mA g c2;refine zB ?_;refine zB (zX zJ [] mK1 400 yP kr rfl ?_);refine zF ?_;refine yZ _ (qO1 h x hh g hxx) rfl rfl ?_;refine zF ?_;refine zC (zA (zK 500 ?_));refine zU rfl (fun c4=>?_) (fun c4=>?_)
  ·have c4:(keyR h x).k=1:=by simpa using c4
   refine zK 600 ?_;refine zL (zO (zR (zO ?_)));rw[show sbS h v x=_ from(Ab c2).trans (Ab om),vX (h:=h) (v:=v) (s:=uG) (l:=[x]) om];exact u11 2 rfl rfl (Sub.ofP (u20 ⟨u12 rfl,(SubPs.refl _)⟩) rfl rfl) ⟨⟨rfl,Sub.mo (by simp),rfl,trivial⟩,SubO.mp rfl,trivial⟩
  ·have c4:(keyR h x).k=0:=by have h9:=c4;simp at h9;omega
   obtain⟨hkd,hke⟩:=zQ1 g hxx c4;refine zM (zA ?_);refine zB (zX zJ [] mK6 700 yP kr rfl ?_);refine zF ?_;refine yZ _ (dF h (zT h v).keys x hh (fun y hy=>gF (ka.keyed y hy))) rfl rfl ?_;refine zF ?_;refine zC (zA (zB (zK 800 ?_)));refine zU rfl (fun c7=>?_) (fun c7=>?_)
   ·have c7:plI h (zT h v).keys x<0:=by simpa using c7
    refine zB (zE zJ [] 900 rfl ?_);refine zF ?_;refine zQ _ (refMissing_ok x) rfl ?_;refine zf (zA (zL (zO (zR (zO ?_)))));rw[show sbS h v x=_ from(Ab c2).trans ((Aa om).trans (Ab c7)),vX (h:=h) (v:=v) (s:=uG) (l:=[x]) om];exact u11 2 rfl rfl (Sub.ofP (u20 ⟨u12 rfl,(SubPs.refl _)⟩) rfl rfl) ⟨⟨rfl,Sub.mo (by simp),rfl,trivial⟩,SubO.mp rfl,trivial⟩
   ·have c7:¬plI h (zT h v).keys x<0:=by simpa using c7
    have hph:=mQ (by omega:0<=plI h (zT h v).keys x);refine zM (zA ?_);refine zB (zE zJ [] 1000 rfl ?_);repeat(first|refine zH ?_|refine xS1 ?_)
    refine zQ _ (yH0 _) rfl ?_;repeat(first|refine zH ?_|refine xS1 ?_)
    refine zC (zA (zL (zR (zO ?_))));rw[show sbS h v x=_ from(Ab c2).trans ((Aa om).trans (Aa c7)),vX (h:=h) (v:=v) (s:=uG) (l:=[x]) om];exact u11 2 rfl rfl (Sub.ofP (u20 ⟨u12 rfl,(SubPs.refl _)⟩) rfl rfl) ⟨⟨rfl,Sub.mo (by simp),rfl,trivial⟩,SubO.mp rfl,trivial⟩
 ·have c2:¬(zT h v).kind=3:=by simpa using c2
  refine zK 1100 ?_;refine zU rfl (fun c10=>?_) (fun c10=>?_)
  ·have c10:(zT h v).kind=5:=by simpa using c10
   obtain⟨x3,x4,x5⟩:=rg_dig (hr c10);have hzc:=rl_Z (hr c10);have hpb:=pod_b (n:=(rgO (zT h v)).cnt.2) hix.nl hxx.1 (rl_c (hr c10)).1;have hpl:=cV0 (v:=x) (n:=ZI (rgO (zT h v)).cnt.1 (rgO (zT h v)).cnt.2) (by rw[hzc];have:=(rl_c (hr c10)).2;omega);have hpa:=cT0 (v:=x) (b:=(rgO (zT h v)).cnt.1) (n:=(rgO (zT h v)).cnt.2);have hpd:(dig (podP x (rgO (zT h v)).cnt.1 (rgO (zT h v)).cnt.2).2).length<=82:=At (yT (by rw[hzc]at hpl hpa;have:=(rl_c (hr c10)).2;omega)) x5;refine zB (zX zJ [] mK20 1200 yP kr rfl ?_);refine zF ?_;refine zQ _ (refLength_ok (zT h v) (hr c10)) rfl ?_;refine zF ?_;refine zQ _ (yI0 x (rgO (zT h v)).cnt.1 (rgO (zT h v)).cnt.2 hix.nl hxx.1 om) rfl ?_;refine zF ?_;refine zC (zA (zB (zK 1300 ?_)));refine zU rfl (fun c12=>?_) (fun c12=>?_)
   ·have c12:¬(poS x (rlO (zT h v))).k=1:=by have h9:=c12;rw[hzc]at h9;simpa using h9
    refine zX zJ [] mK10 1400 yP kr rfl ?_;refine zF ?_;refine zQ _ (cD0 (zT h v) (hr c10)) rfl ?_;refine zF ?_;refine zQ _ (rgElementZ_ok (rgO (zT h v)) _ _ x3 x4 om hpb) rfl ?_;refine zF ?_;refine zQ _ (integer7_ok _ _ (by have:=rgElZ_sz (n:=(podP x (rgO (zT h v)).cnt.1 (rgO (zT h v)).cnt.2).2) x3 x4 (k:=82) hpd;omega)) rfl ?_;refine zF ?_;refine zC (zA (zK 1500 ?_));refine zL (zR (zO ?_));rw[cT0,hzc,show sbS h v x=_ from(Aa c2).trans ((Ab c10).trans (sbR_y (hr c10) c12)),vX (h:=h) (v:=v) (s:=uG) (l:=[x]) om];exact u11 2 rfl rfl (Sub.ofP (u20 ⟨u12 rfl,(SubPs.refl _)⟩) rfl rfl) ⟨⟨rfl,Sub.mo (by simp),rfl,trivial⟩,SubO.mp rfl,trivial⟩
   ·have c12:(poS x (rlO (zT h v))).k=1:=by have h9:=c12;rw[hzc]at h9;simpa using h9
    refine zM (zA (zK 1500 ?_));refine zL (zR (zO ?_));rw[hzc,show sbS h v x=_ from(Aa c2).trans ((Ab c10).trans (sbR_n c12)),vX (h:=h) (v:=v) (s:=uG) (l:=[x]) om];exact u11 2 rfl rfl (Sub.ofP (u20 ⟨u12 rfl,(SubPs.refl _)⟩) rfl rfl) ⟨⟨rfl,Sub.mo (by simp),rfl,trivial⟩,SubO.mp rfl,trivial⟩
  ·have c10:¬(zT h v).kind=5:=by simpa using c10
   refine zB (zX zJ [] [[],[0],[0,1],[],[0,1,2,3],(rgN 5)] 1600 yP kr rfl ?_);refine zF ?_;refine yZ _ (refSequence_ok h v) rfl rfl ?_;refine zF ?_;refine zC (zA (zU rfl (fun c15=>?_) (fun c15=>?_)))
   ·have c15:(v.k=4\/v.k=5)\/(zT h v).kind=1\/(zT h v).kind=2:=by have h9:=c15;simp at h9;omega
    have hsz:=tG0 (h:=h) hvv.1 om;have hilr:=wG v.s v.s.size 0;have hel4:(elS h v).length<=4000:=by
     unfold ruL at hel;rw[An]at hel;split at hel
     ·omega
     ·split at hel
      ·omega
      ·split at hel<;>omega
    refine zB (zX zJ [] [[],[0],[0,1],[],[0,1,2,3],(rgN 5)] 1700 yP kr rfl ?_);refine zF ?_;refine yZ _ ((Elements_ok h v hh hiv).fn (d:=vl0)) rfl rfl ?_;refine zf (zA ?_);refine zB (zE zJ [] 1800 rfl ?_);refine zF ?_;refine zQ _ (gI0 x ((elS h v).length:Nat) hix.nl hxx.1 om om) rfl ?_;refine zF ?_;refine zC (zA (zB (zK 1900 ?_)));refine zU rfl (fun c18=>?_) (fun c18=>?_)
    ·have c18:¬(poS x ((elS h v).length:Nat)).k=1:=by simpa using c18
     have hpo:=(yS0 (v:=x) (n:=(elS h v).length)).resolve_left c18;refine zE zJ [] 2000 rfl ?_;repeat(first|refine zH ?_|refine xR1 ?_)
     refine zQ _ (yH0 _) rfl ?_;repeat(first|refine zH ?_|refine xR1 ?_)
     refine zC (zA (zK 2100 ?_));refine zL (zR (zO ?_));rw[show sbS h v x=_ from(Aa c2).trans ((Aa c10).trans ((Ab c15).trans (Aa c18))),vX (h:=h) (v:=v) (s:=uG) (l:=[x]) om];exact u11 2 rfl rfl (Sub.ofP (u20 ⟨u12 rfl,(SubPs.refl _)⟩) rfl rfl) ⟨⟨rfl,Sub.mo (by simp),rfl,trivial⟩,SubO.mp rfl,trivial⟩
    ·have c18:(poS x ((elS h v).length:Nat)).k=1:=by simpa using c18
     refine zM (zA (zK 2100 ?_));refine zL (zR (zO ?_));rw[show sbS h v x=_ from(Aa c2).trans ((Aa c10).trans ((Ab c15).trans (Ab c18))),vX (h:=h) (v:=v) (s:=uG) (l:=[x]) om];exact u11 2 rfl rfl (Sub.ofP (u20 ⟨u12 rfl,(SubPs.refl _)⟩) rfl rfl) ⟨⟨rfl,Sub.mo (by simp),rfl,trivial⟩,SubO.mp rfl,trivial⟩
   ·have c15:¬((v.k=4\/v.k=5)\/(zT h v).kind=1\/(zT h v).kind=2\/(zT h v).kind=5):=by have h9:=c15;simp at h9;omega
    refine zM (zN (zA ?_));refine zB (zX zJ [] mK11 2200 yP kr rfl ?_);refine zF ?_;refine yZ _ ((pA h v uG [x] hh g hvv.2 (by show 1<=1000000;decide)).args ⟨u6 _,u6 _,u6 _,u18 rfl,trivial⟩) rfl rfl ?_;refine zF ?_;refine yZ _ (jM0 h v sbI2 g hcf hnm de) rfl rfl ?_;refine zf (zA (zL ?_));rw[wO1 h v sbI sbI2 sb_txt,show sbS h v x=sbN h v sbI from cL0 ⟨c2,by omega⟩];exact u11 2 rfl rfl (Sub.ofP (u20 ⟨u6 _,(SubPs.refl _)⟩) rfl rfl) ⟨⟨rfl,Sub.mo (by simp),rfl,trivial⟩,SubO.mp rfl,trivial⟩
end Go.Proofs.YtammfbdgjnkolaaGreatDoor
