/-Part 28 of the proof. -/
import Derived.Test.YtammfbdgjnkolaaGreatDoorM27
import Derived.Lib.ItoaLen
import Derived.Lib.AppendIntMem
namespace Go.Proofs.YtammfbdgjnkolaaGreatDoor
open Go.RowKit
variable{md me:Bool}
theorem zG1(o:Ob)(k:Nat)(l:List Vl):D.pvs ((obD o).take 7++[.own k 7 (l.map vlD)]++(obD o).drop 8)=D.pvs (obD {o with keys:=l}):=by
 show D.pvs [_,_,_,_,_,_,_,D.own k 7 (l.map vlD),_,_]=D.pvs [_,_,_,_,_,_,_,D.sl false 7 l vlD vl0,_,_];simp only[D.pvs,D.pv,yS,Cw];rfl
theorem cK0{h:List Ob}{n:Nat}{o:Ob}(hn:n<h.length):(h.set n o).getD n ob0=o:=by
 rw[Af,List.getElem?_set];simp[hn]
def putR(h:List Ob)(d k w:Vl):St:=if ¬(keyR h k).k=0 then keyR h k else if 0<=plI h (zT h d).keys k then st0 else if((zT h d).keys.length:Int)=1000 then raS 42 tooB else st0
def putH(h:List Ob)(d k w:Vl):List Ob:=if ¬(keyR h k).k=0 then h else if 0<=plI h (zT h d).keys k then h.set d.r.toNat {zT h d with items:=(zT h d).items.set (plI h (zT h d).keys k).toNat w}else if((zT h d).keys.length:Int)=1000 then h else h.set d.r.toNat {zT h d with keys:=(zT h d).keys++[k],items:=(zT h d).items++[w]}
theorem zQ1{h:List Ob}(g:Uh h){k:Vl}(hv:Vd h k)(hk:(keyR h k).k=0):vG h k=true/\keyR h k=st0:=by
 rcases pO g hv with hc|hc|hc
 ·rw[hc.2.2.2.2.2]at hk;exact absurd hk (by show ¬(1:Int)=0;decide)
 ·rw[hc.2.2.2]at hk;exact absurd hk (by show ¬(1:Int)=0;decide)
 ·exact⟨hc.2.2.2.2.1,hc.2.2.2.2.2⟩
theorem pV0{h:List Ob}(g:Uh h){k:Vl}(hv:Vd h k):(keyR h k).k=0\/(keyR h k).k=1:=by
 rcases pO g hv with hc|hc|hc
 ·rw[hc.2.2.2.2.2];exact .inr rfl
 ·rw[hc.2.2.2];exact .inr rfl
 ·rw[hc.2.2.2.2.2];exact .inl rfl
theorem uZ1{h:List Ob}{k:Vl}(hk:vG h k=true)(hv:Vd h k):Kd h [k]:=⟨fun x hx=>by rw[Cc.1 hx];exact hk,fun x hx=>by rw[Cc.1 hx];exact hv,fun i j hi hj hne=>by
 simp only[Co]at hi hj;omega⟩
def oneK(k w:Vl):Ob:=⟨0,ByteArray.empty,0,[],[],[],[w],[k],0,0⟩
theorem one_old{h:List Ob}{x:Ob}{k w:Vl}(hx:Dk h x.keys)(hl:x.items.length=x.keys.length)(hk:Kd h [k])(h0:0<=plI h x.keys k):unK h x (oneK k w) 1=x.keys/\unI h x (oneK k w) 1=x.items.set (plI h x.keys k).toNat w:=by
 have h1:=un_old (h:=h) (x:=x) (y:=oneK k w) (i:=0) Nat.zero_lt_one hx hk.dk h0;rw[mH0,mI0 hl]at h1;exact h1
theorem one_new{h:List Ob}{x:Ob}{k w:Vl}(hl:x.items.length=x.keys.length)(hk:Kd h [k])(h0:plI h x.keys k<0):unK h x (oneK k w) 1=x.keys++[k]/\unI h x (oneK k w) 1=x.items++[w]:=by
 have h1:=un_new (h:=h) (x:=x) (y:=oneK k w) (i:=0) Nat.zero_lt_one hk.dk h0;rw[mH0,mI0 hl]at h1;exact h1
theorem zB0(l:List Vl)(i:Int)(v:Vl)(hl:l.length<=2000000)(h0:0<=i)(h1:i.toNat<l.length):Fx 42 [vsD l,.v (.int .i64 i),.agg (vlD v)] (.sl false 7 (l.set i.toNat v) vlD vl0):=by
 refine yD zJ Tryz.func42 rfl rfl rfl rfl rfl rfl ?_;intros;refine zK 100 ?_;refine zB (zE zJ [1009] 200 rfl ?_);repeat(first|refine zH ?_|refine zW (by first|exact qX hl|exact Fa) ?_)
 refine zC (zA ?_);refine yL [1,5] [0] 210 [(7,.mo 101 l.length)] [(101,.mrow 29 7 (.map l vlD vl0))] ?_;refine⟨⟨⟨Sub.mo (by rw[An]),yG⟩,⟨SubO.mr rfl,yF⟩,rfl,rfl⟩,?_⟩;refine zB (zE zJ [] 300 rfl ?_);repeat(first|refine zH ?_|refine zW (by first|rfl|exact⟨h0,h1⟩|exact⟨rfl,h1⟩|exact⟨by simp[MR.len],by simpa[MR.len]using h1⟩|(simp only[MR.len];done)|exact Fa) ?_)
 refine zC (zA ?_);refine qT 101 rfl (by repeat(first|exact trivial|exact rfl|exact(fun _=>rfl)|exact(fun h=>absurd h (by decide))|refine⟨?_,?_⟩)) (by repeat(first|exact trivial|exact rfl|exact(fun _=>rfl)|exact(fun h=>absurd h (by decide))|refine⟨?_,?_⟩)) ?_;refine zK 400 ?_;refine zL ?_;exact u4 rfl (SubP.ownSl (by show(l.map vlD).set _ _=_;rw[List.map_set];rfl))
theorem wC1{P:Program}{E:Pn}{K:DS->Prop}{p:Prop}{r:Out}(hr:r.sat P E K)(hp:p:=by first|rfl|exact⟨by omega,hvl.2⟩|exact⟨hvl.1,hvl.2⟩|exact⟨by simp[MR.len],by show _<(MR.map h obD ob0).len;simpa[MR.len]using hvl.2⟩|(simp only[MR.len];done)|exact Fa):(Out.need p r).sat P E K:=⟨hp,hr⟩
set_option maxHeartbeats 1000000 in
theorem opPut_G(h:List Ob)(d k w:Vl)(hh:HpIn h)(g:Uh h)(hd:d.k=6->qA h d.r=true)(hk:(zT h d).kind=3)(hv:Vd h k):FnG Tryz.prog 43 [.bp 0 0,.agg (vlD d),.agg (vlD k),.agg (vlD w)] (hpO h) (.agg (stD (putR h d k w))) (hpO (putH h d k w)):=by
 have ho:=pZ0 (h:=h) (v:=d) om;have hvl:=uZ ho.2;have eo:zT h d=h.getD d.r.toNat ob0:=wA hd ho.1;have ka:=bX0 g hd om;have la:=uO g d;have hhl:=hh.len;have h01:=pV0 g hv;have hil:=mA g hk;have hvk:d.r.toNat<(h.set d.r.toNat {zT h d with keys:=(zT h d).keys++[k]}).length:=by rw[Bu];exact hvl.2
 have hset:(h.set d.r.toNat {zT h d with keys:=(zT h d).keys++[k]}).set d.r.toNat {zT h d with keys:=(zT h d).keys++[k],items:=(zT h d).items++[w]}=h.set d.r.toNat {zT h d with keys:=(zT h d).keys++[k],items:=(zT h d).items++[w]}:=List.set_set ..;refine uE zJ Tryz.func43 rfl rfl rfl rfl rfl rfl rfl ?_;intros;refine zK 100 ?_;refine zB ?_;refine zB (zX zJ [] [[],[0],[0,1],[],[0,1,2,3],(rgN 5),(rgN 6),(rgN 6),[],[0,1,2,3,4,5,6,8],(rgN 10)] 200 yP kr rfl ?_);refine zF ?_;refine yZ _ (pK0 h k hh g hv) rfl rfl ?_;refine zF ?_;refine zC (zA (zK 300 ?_));refine zU rfl (fun c2=>?_) (fun c2=>?_)
 ·have c2:¬(keyR h k).k=0:=by simpa using c2
  refine zK 400 ?_;refine zL (zO ?_);rw[show putR h d k w=_ from Ab c2,show putH h d k w=_ from Ab c2];exact u11 2 rfl rfl (Sub.ofP (u20 (SubPs.refl _)) rfl rfl) ⟨⟨rfl,Sub.mo (by simp),rfl,trivial⟩,SubO.mp (rfl),trivial⟩
 ·have c2:(keyR h k).k=0:=by simpa using c2
  obtain⟨hkd,hke⟩:=zQ1 g hv c2;have kb:=uZ1 hkd hv;refine zM (zA ?_);refine zB (zX zJ [] mK1 500 yP kr rfl ?_);refine zF ?_;refine yZ _ (vJ h d hd) rfl rfl ?_;refine zf (zA ?_);refine zB (zX zJ [] mK6 600 yP kr rfl ?_);refine zF ?_;refine yZ _ (dY h (zT h d).keys k hh g hkd hv ka.vd) rfl rfl ?_;refine zF ?_;refine zC (zA (zB (zP (zK 900 ?_))));refine zZ (fun c8=>?_) (fun c8=>?_)
  ·
   refine zX zJ [] mK21 1000 yP kr rfl ?_;repeat(first|refine zH ?_|refine wC1 ?_)
   refine zQ _ (zB0 (zT h d).items (plI h (zT h d).keys k) w om c8 (by have:=mQ c8;omega)) rfl ?_;repeat(first|refine zH ?_|refine wC1 ?_)
   refine zC (zN (zA (zK 1300 ?_)));refine zL ?_;rw[show putR h d k w=_ from(Aa (not_not_intro c2)).trans (Ab c8),show putH h d k w=_ from(Aa (not_not_intro c2)).trans (Ab c8)];exact u11 2 rfl rfl (Sub.ofP (u20 nz) rfl rfl) ⟨⟨rfl,Sub.mo (by simp),rfl,trivial⟩,SubO.mp (wZ (by rw[<-eo];rfl)),trivial⟩
  ·
   refine zK 1100 ?_;refine zZ (fun c10=>?_) (fun c10=>?_)
   ·
    refine zB (zE zJ [] 1200 rfl ?_);refine zF ?_;refine zQ _ (opLimit_ok) rfl ?_;refine zf (zA (zL (zR (zO ?_))));rw[show putR h d k w=_ from(Aa (not_not_intro c2)).trans ((Aa om).trans (Ab c10)),show putH h d k w=_ from(Aa (not_not_intro c2)).trans ((Aa om).trans (Ab c10))];exact u11 2 rfl rfl (Sub.ofP (u20 (SubPs.refl _)) rfl rfl) ⟨⟨rfl,Sub.mo (by simp),rfl,trivial⟩,SubO.mp (rfl),trivial⟩
   ·
    refine zB (zX zJ [] mK22 1200 yP kr rfl ?_);repeat(first|refine zH ?_|refine zW (by first|(simp only[An,Am,Au];omega)|exact qX (by omega)|first|rfl|exact⟨by omega,hvl.2⟩|exact⟨hvl.1,hvl.2⟩|exact⟨by simp[MR.len],by show _<(MR.map h obD ob0).len;simpa[MR.len]using hvl.2⟩|(simp only[MR.len];done)|exact Fa) ?_)
    refine zC (zA ?_);refine yL [0,5,7,8,11] [2,4,5,305] 1210 [] [(0,.box 24 [.mo 1 (h.set d.r.toNat {zT h d with keys:=(zT h d).keys++[k]}).length]),(1,.mrow 50 10 (.map (h.set d.r.toNat {zT h d with keys:=(zT h d).keys++[k]}) obD ob0))] ?_;refine⟨⟨yG,⟨⟨rfl,Sub.mo (by rw[Bu]),rfl,trivial⟩,SubO.mp (wZ (by rw[<-eo];show D.pvs ((obD (zT h d)).take 7++[.own _ 7 ((zT h d).keys.map vlD++[vlD k])]++(obD (zT h d)).drop 8)=_;rw[<-kG];exact zG1 _ _ _)),yF⟩,rfl,rfl⟩,?_⟩;refine zX zJ [] mK22 1300 yP kr rfl ?_;repeat(first|refine zH ?_|refine zW (by first|exact⟨by simp[MR.len],hvk⟩|exact⟨hvl.1,hvk⟩|first|(simp only[An,Am,Au];omega)|exact qX (by omega)|first|rfl|exact⟨by omega,hvk⟩|exact⟨hvl.1,hvk⟩|exact⟨by simp[MR.len],by show _<(MR.map h obD ob0).len;simpa[MR.len]using hvk⟩|(simp only[MR.len];done)|exact Fa) ?_)
    refine zC (zN (zA (zK 1400 ?_)));refine zL ?_;rw[show putR h d k w=_ from(Aa (not_not_intro c2)).trans ((Aa om).trans (Aa c10)),show putH h d k w=_ from(Aa (not_not_intro c2)).trans ((Aa om).trans (Aa c10))];exact u11 2 rfl rfl (Sub.ofP (u20 nz) rfl rfl) ⟨⟨rfl,Sub.mo (by simp),rfl,trivial⟩,SubO.mp ((wZ (h:=(h.set d.r.toNat {zT h d with keys:=(zT h d).keys++[k]})) (n:=d.r.toNat) (o:={zT h d with keys:=(zT h d).keys++[k],items:=(zT h d).items++[w]}) (by rw[cK0 hvl.2];show D.pvs ((obD {zT h d with keys:=(zT h d).keys++[k]}).take 6++[.own _ 7 ((zT h d).items.map vlD++[vlD w])]++(obD {zT h d with keys:=(zT h d).keys++[k]}).drop 7)=_;rw[<-kG];exact tR _ _ _)).trans (congrArg (fun z=>D.pvss (List.map obD z)) hset)),trivial⟩
set_option maxHeartbeats 1000000 in
theorem PutD_G(h:List Ob)(d k w:Vl)(hh:HpIn h)(g:Uh h)(hd:d.k=6->qA h d.r=true)(hk:(zT h d).kind=3)(hv:Vd h k):FnG Tryz.prog 44 [.bp 0 0,.agg (vlD d),.agg (vlD k),.agg (vlD w)] (hpO h) (.agg (stD (putR h d k w))) (hpO (putH h d k w)):=by
 have ho:=pZ0 (h:=h) (v:=d) om;have hvl:=uZ ho.2;have eo:zT h d=h.getD d.r.toNat ob0:=wA hd ho.1;have ka:=bX0 g hd om;have la:=uO g d;have hhl:=hh.len;have h01:=pV0 g hv;have hil:=mA g hk;refine uE zJ Tryz.func44 rfl rfl rfl rfl rfl rfl rfl ?_;intros;refine zK 100 ?_;refine zB ?_;refine zB (zX zJ [] mK1 200 yP kr rfl ?_);refine zF ?_;refine yZ _ (qO1 h k hh g hv) rfl rfl ?_;refine zF ?_;refine zC (zA (zK 300 ?_));refine zU rfl (fun c2=>?_) (fun c2=>?_)
 ·have c2:¬(keyR h k).k=0:=by have:=Ag c2;omega
  refine zK 400 ?_;refine zL (zO ?_);rw[show putR h d k w=_ from Ab c2,show putH h d k w=_ from Ab c2];exact u11 2 rfl rfl (Sub.ofP (u20 (SubPs.refl _)) rfl rfl) ⟨⟨rfl,Sub.mo (by simp),rfl,trivial⟩,SubO.mp (rfl),trivial⟩
 ·have c2:(keyR h k).k=0:=by have:=of_decide_eq_false c2;omega
  obtain⟨hkd,hke⟩:=zQ1 g hv c2;have kb:=uZ1 hkd hv;have hOld:=one_old (w:=w) ka.dk hil kb;have hNew:=one_new (w:=w) hil kb;refine zM (zA ?_);refine zB (zX zJ [] [[],[0],[0,1],[],[3],[3,4],[],[3,4,5,6],[],[8],[],[10],[8,9,10,11],(rgN 13),[],(rgN 15)] 500 yP kr rfl ?_);refine zF ?_;refine yZ _ (jL h d) rfl rfl ?_;refine zF ?_;refine yZ _ ((united_ok h (zT h d) (oneK k w) hh g ka kb hil rfl om (by show 1<=1000000;decide)).args ⟨u6 _,u6 _,u20 ⟨u6 _,u6 _,u6 _,u12 rfl,u12 rfl,u12 rfl,u18 rfl,u18 rfl,u6 _,u6 _,trivial⟩,trivial⟩) rfl rfl ?_;refine zF ?_;refine zC (zA (zB (zK 600 ?_)));refine zU rfl (fun c5=>?_) (fun c5=>?_)
  ·have c5:(1000:Int)<((unK h (zT h d) (oneK k w) 1).length:Int):=Ag c5;refine zB (zE zJ [] 700 rfl ?_);refine zF ?_;refine zQ _ (yG0) rfl ?_;refine zf (zA (zL (zO ?_)));have hn:plI h (zT h d).keys k<0:=by
    rcases Int.lt_or_le (plI h (zT h d).keys k) 0 with hq|hq
    ·exact hq
    ·rw[(hOld hq).1]at c5;omega
   have hc:((zT h d).keys.length:Int)=1000:=by rw[(hNew hn).1,Ae,Co]at c5;omega
   rw[show putR h d k w=_ from(Aa (not_not_intro c2)).trans ((Aa om).trans (Ab hc)),show putH h d k w=_ from(Aa (not_not_intro c2)).trans ((Aa om).trans (Ab hc))];exact u11 2 rfl rfl (Sub.ofP (u20 (SubPs.refl _)) rfl rfl) ⟨⟨rfl,Sub.mo (by simp),rfl,trivial⟩,SubO.mp (rfl),trivial⟩
  ·have c5:¬(1000:Int)<((unK h (zT h d) (oneK k w) 1).length:Int):=of_decide_eq_false c5;refine zM (zA ?_);refine zB (zX zJ [] [[],[0],[0,1],[0,1,2],[],[4],[],[6],[6,7],[6,7,8],[],[10],[],[12],[],[14],[0,1,2,3,4,5,6,7,8,9,12,13],[0,1,2,3,4,5,6,7,8,9,12,13,16],[0,1,2,3,4,5,6,7,8,9,12,13,16,17],(rgN 19),(rgN 20),(rgN 21)] 800 yP kr rfl ?_);repeat(first|refine zH ?_|refine wC1 ?_)
   refine zC (zA (zK 900 ?_));refine zL ?_;rcases Int.lt_or_le (plI h (zT h d).keys k) 0 with hq|hq
   ·have hc:¬((zT h d).keys.length:Int)=1000:=by rw[(hNew hq).1,Ae,Co]at c5;omega
    rw[show putR h d k w=_ from(Aa (not_not_intro c2)).trans ((Aa om).trans (Aa hc)),show putH h d k w=_ from(Aa (not_not_intro c2)).trans ((Aa om).trans (Aa hc))];exact u11 2 rfl rfl (Sub.ofP (u20 nz) rfl rfl) ⟨⟨rfl,Sub.mo (by simp),rfl,trivial⟩,SubO.mp (xY0 (by rw[<-eo];show D.pvs (obD {zT h d with keys:=unK h (zT h d) (oneK k w) 1,items:=unI h (zT h d) (oneK k w) 1})=_;rw[(hNew hq).1,(hNew hq).2])),trivial⟩
   ·rw[show putR h d k w=_ from(Aa (not_not_intro c2)).trans (Ab hq),show putH h d k w=_ from(Aa (not_not_intro c2)).trans (Ab hq)];exact u11 2 rfl rfl (Sub.ofP (u20 nz) rfl rfl) ⟨⟨rfl,Sub.mo (by simp),rfl,trivial⟩,SubO.mp (xY0 (by rw[<-eo];show D.pvs (obD {zT h d with keys:=unK h (zT h d) (oneK k w) 1,items:=unI h (zT h d) (oneK k w) 1})=_;rw[(hOld hq).1,(hOld hq).2])),trivial⟩
variable{md me:Bool}
def sbQ:ByteArray:=⟨#[39]⟩
def sbB:ByteArray:=⟨#[39,32]⟩
def sbI:ByteArray:=⟨#[39,32,99,97,110,110,111,116,32,98,101,32,105,110,100,101,120,101,100]⟩
def sbI2:ByteArray:=⟨#[99,97,110,110,111,116,32,98,101,32,105,110,100,101,120,101,100]⟩
def uG:ByteArray:=⟨#[111,110,95,105,116,101,109]⟩
def sbN(h:List Ob)(v:Vl)(s:ByteArray):St:=raS 32 ((sbQ++(yJ h (clA h v)).name)++s)
theorem wO1(h:List Ob)(v:Vl)(s t:ByteArray)(e:sbB++t=s):raS 32 (((sbQ++(yJ h (clA h v)).name)++sbB)++t)=sbN h v s:=by
 unfold sbN;rw[ByteArray.append_assoc,e]
def sbK(h:List Ob)(v:Vl):Int:=if(v.k=4\/v.k=5)\/(zT h v).kind=1\/(zT h v).kind=2\/(zT h v).kind=5 then 1 else if(zT h v).kind=3 then 2 else 0
def sbR(o:Ob)(x:Vl):St:=if ¬x.k=2 then raS 32 pxTB else if pxB (pxI x) (rlO o)=true then vlS (nuV (rA o+rC o*pxJ (pxI x) (rlO o)))else raS 38 pxRB
def sbE(h:List Ob)(v x:Vl):St:=if(poS x (elS h v).length).k=1 then poS x (elS h v).length else vlS ((elS h v).getD (poQ x (elS h v).length).toNat vl0)
def miS(k:Vl):St:=⟨1,vl0,39,ByteArray.empty,vl0,[k]⟩
def sbL(h:List Ob)(v k:Vl):St:=if ¬(keyR h k).k=0 then keyR h k else if plI h (zT h v).keys k<0 then miS k else vlS ((zT h v).items.getD (plI h (zT h v).keys k).toNat vl0)
def sbS(h:List Ob)(v x:Vl):St:=if(zT h v).kind=3 then sbL h v x else if(zT h v).kind=5 then sbR (zT h v) x else if(v.k=4\/v.k=5)\/(zT h v).kind=1\/(zT h v).kind=2 then sbE h v x else sbN h v sbI
theorem yS0{v:Vl}{n:Int}:(poS v n).k=1\/(poS v n=st0/\0<=poQ v n/\poQ v n<n):=by
 unfold poS;split
 ·exact .inl rfl
 ·rename_i h1;split
  ·rename_i h2;refine .inr ⟨rfl,?_⟩;rw[show poQ v n=pxQ (pxI v) n from Ab (Classical.not_not.1 h1),(px_y h2).1];exact pxB_iff.1 h2
  ·exact .inl rfl
theorem kB0(b:ByteArray):∀n p,∀x∈itL b n p,0<=x.2/\x.2<=1114111
 |0,_,x,hx=>by simp[itL]at hx
 |n+1,p,x,hx=>by
  rw[itL]at hx;split at hx
  ·rcases Bi.1 hx with rfl|hx
   ·refine⟨Int.natCast_nonneg _,?_⟩;have:(Utf8.decode b p).1<=1114111:=by
     have hb:∀k,(b.get! (p+k)).toNat<256:=fun k=>(b.get! (p+k)).toNat_lt;have h0:=hb 0;have h1:=hb 1;have h2:=hb 2;have h3:=hb 3;simp only[Utf8.decode];repeat' split
     all_goals simp_all[Utf8.runeError,Utf8.valid]
     all_goals omega
    show((Utf8.decode b p).1:Int)<=1114111;omega
   ·exact kB0 b n _ x hx
  ·cases hx
theorem drop_mem{α:Type}{L:List α}{k:Nat}{a:α}{r:List α}(h:L.drop k=a::r):a∈L:=Dj (i:=k) (by rw[h];exact Bc)
theorem ruL_max{b:ByteArray}{i:Nat}:0<=(ruL b).getD i 0/\(ruL b).getD i 0<=1114111:=by
 rw[Af];rcases Br i (ruL b).length with hi|hi
 ·rw[Ac hi];have hm:(ruL b)[i]∈ruL b:=Cj hi;obtain⟨x,hx,e⟩:=Dc.1 hm;show 0<=(ruL b)[i]/\(ruL b)[i]<=1114111;rw[<-e];exact kB0 b _ _ x hx
 ·rw[Cz hi];exact⟨by decide,by decide⟩
theorem tD0{n:Int}(h:0<=n/\n<=1114111):IntKind.i64.wrap n=n/\IntKind.i32.wrap n=n:=by
 constructor<;>(simp only[IntKind.wrap,IntKind.signed,IntKind.bits,Dm];split<;>simp_all<;>omega)
def ptL(s:ByteArray):List Int:=if Lib.validD s.data.toList=true then ruL s else []
theorem yO1{h:List Ob}{v:Vl}:(elS h v).length=if v.k=4 then(ruL v.s).length else if v.k=5 then v.s.size else if(zT h v).kind=3\/(zT h v).kind=4 then(zT h v).keys.length else(zT h v).items.length:=by
 unfold elS ruL;split
 ·simp
 ·split
  ·simp
  ·split<;>rfl
theorem bQ0{P:Program}{E:Pn}{K:DS->Prop}{p:Prop}{r:Out}(hr:r.sat P E K)(hp:p:=by first|(simp only[Da,sbQ,sbB,bsZ,kbsz,Cl,Am,Au];omega)|exact Fa):(Out.need p r).sat P E K:=⟨hp,hr⟩
theorem wU(h:List Ob)(v:Vl)(s:ByteArray)(g:Uh h)(hcf:Cf h v)(hnm:(yJ h (clA h v)).name.size<=2000000)(hs:s.size<=1000):Fx 19 [hpD md h,.agg (vlD v),.v (.string s)] (.agg (stD (sbN h v s))):=by
 refine yD zJ Tryz.func19 rfl rfl rfl rfl rfl rfl ?_;intros;refine zK 100 ?_;refine zB (zE zJ [] 200 rfl ?_);repeat(first|refine zH ?_|refine bQ0 ?_)
 refine zQ _ (zL0 h v g hcf) rfl ?_;repeat(first|refine zH ?_|refine bQ0 ?_)
 refine zQ _ (wF _ _) rfl ?_;repeat(first|refine zH ?_|refine bQ0 ?_)
 refine zC (zA (zL ?_));exact u4 rfl (u6 _)
theorem jM0(h:List Ob)(v:Vl)(s:ByteArray)(g:Uh h)(hcf:Cf h v)(hnm:(yJ h (clA h v)).name.size<=2000000)(hs:s.size<=1000):Fx 37 [hpD md h,.agg (vlD v),.v (.string s)] (.agg (stD (raS 32 (((sbQ++(yJ h (clA h v)).name)++sbB)++s)))):=by
 refine yD zJ Tryz.func37 rfl rfl rfl rfl rfl rfl ?_;intros;refine zK 100 ?_;refine zB (zE zJ [] 200 rfl ?_);repeat(first|refine zH ?_|refine bQ0 ?_)
 refine zQ _ (tG h v g hcf) rfl ?_;repeat(first|refine zH ?_|refine bQ0 ?_)
 refine zQ _ (gP _ _) rfl ?_;repeat(first|refine zH ?_|refine bQ0 ?_)
 refine zC (zA (zL ?_));exact u4 rfl (u6 _)
theorem opKindOf_ok(h:List Ob)(v:Vl)(hv:v.k=6->qA h v.r=true):Fx 20 [hpD md h,.agg (vlD v)] (.v (.int .i64 (sbK h v))):=by
 refine yD zJ Tryz.func20 rfl rfl rfl rfl rfl rfl ?_;intros;refine zK 100 ?_;refine zB ?_;refine zB (zE zJ [] 200 rfl ?_);refine zF ?_;refine zQ _ (vJ h v hv) rfl ?_;refine zF ?_;refine zC (zA (zP (zB (zK 300 ?_))));refine zZ (fun c2=>?_) (fun c2=>?_)
 ·
  refine zM (zA (zZ (fun c2x=>?_) (fun c2x=>?_)))
  ·
   refine zK 700 ?_;refine zL (zR (zO ?_));exact u4 rfl (u10 (by unfold sbK;rw[Ab (by simp_all)]))
  ·
   simp_all
 ·
  refine zK 400 ?_;refine zZ (fun c3=>?_) (fun c3=>?_)
  ·
   refine zM (zA (zZ (fun c3x=>?_) (fun c3x=>?_)))
   ·
    refine zK 700 ?_;refine zL (zR (zO ?_));exact u4 rfl (u10 (by unfold sbK;rw[Ab (by simp_all)]))
   ·
    simp_all
  ·
   refine zK 500 ?_;refine zZ (fun c4=>?_) (fun c4=>?_)
   ·
    refine zM (zA (zZ (fun c4x=>?_) (fun c4x=>?_)))
    ·
     refine zK 700 ?_;refine zL (zR (zO ?_));exact u4 rfl (u10 (by unfold sbK;rw[Ab (by simp_all)]))
    ·
     simp_all
   ·
    refine yM zJ [] 600 ?_;refine zA (zZ (fun c5=>?_) (fun c5=>?_))
    ·
     refine zK 700 ?_;refine zL (zR (zO ?_));exact u4 rfl (u10 (by unfold sbK;rw[Ab (by simp_all)]))
    ·
     refine zK 800 ?_;refine zZ (fun c7=>?_) (fun c7=>?_)
     ·
      refine zK 900 ?_;refine zL (zR (zO ?_));exact u4 rfl (u10 (by unfold sbK;rw[Aa (by simp_all),Ab (by simp_all)]))
     ·
      refine zM (zN (zA (zK 1000 ?_)));refine zL ?_;exact u4 rfl (u10 (by unfold sbK;rw[Aa (by simp_all),Aa (by simp_all)]))
theorem txAt_ok(c i:Int):Fx 185 [.v (.int .i64 c),.v (.int .i64 i)] (faD c i):=by
 refine yD zJ Tryz.func185 rfl rfl rfl rfl rfl rfl ?_;intros;refine zK 100 ?_;refine zK 200 ?_;refine zL ?_;exact u4 rfl (u6 _)
theorem txValid_ok(s:ByteArray)(hs:s.size<=4000):Fx 184 [.v (.string s)] (.v (.bool (Lib.validD s.data.toList))):=by
 refine yD zJ Tryz.func184 rfl rfl rfl rfl rfl rfl ?_;intros;refine zK 100 ?_;refine zB (zE zJ [] 200 rfl ?_);refine zF ?_;refine zQ _ (mK _ om) rfl ?_;refine zf (zA (zL ?_));exact u4 rfl (u7 (by simp;omega))
theorem txCheck_ok(s:ByteArray)(hs:s.size<=4000):Fx 131 [.sl false 1 [s] (fun x=>[.v (.string x)]) ByteArray.empty] (faD (if Lib.validD s.data.toList=true then 0 else 6) (if Lib.validD s.data.toList=true then 0 else-1)):=by
 refine yD zJ Tryz.func131 rfl rfl rfl rfl rfl rfl ?_;intros;refine zK 100 ?_;refine zB (zK 200 ?_);refine zP ?_;refine yC (ι:={k:Nat//k<=1/\(k=1->Lib.validD s.data.toList=true)}) [2,5,6] [0] 250 (fun x=>[(7,.v (.int .i64 x.1))]) (fun _=>[]) (fun x=>1-x.1) ⟨0,by decide,fun h=>absurd h de⟩ ?_;refine⟨⟨yG,yF,rfl,rfl⟩,fun x=>?_⟩;have hk1:=x.2.1;refine zK 300 ?_;refine zB (zU rfl (fun c2=>?_) (fun c2=>?_))
 ·have c2:x.1=0:=by
   have h9:=c2;simp at h9;omega
  refine zM (zA (zB (zP (zK 400 ?_))));refine zB (zE zJ [] 500 rfl ?_);refine zF ?_;refine zQ _ ((txValid_ok s hs).args ⟨u9 (by rw[c2];rfl),trivial⟩) rfl ?_;refine zF ?_;refine zC (zA (zZ (fun c4=>?_) (fun c4=>?_)))
  ·
   refine zB (zE zJ [] 600 rfl ?_);refine zF ?_;refine zQ _ (txAt_ok _ _) rfl ?_;refine zf (zA (zL (zR (zO (yQ (zR (zO ?_)))))));have hn:¬Lib.validD s.data.toList=true:=by simpa using c4
   rw[Aa hn,Aa hn];exact u4 rfl (u9 (by rw[c2];rfl))
  ·
   refine zM (zN (zA (yM zJ [] 700 ?_)));exact zS ⟨1,by decide,fun _=>by simpa using c4⟩ ⟨⟨u21 (by rw[c2];rfl),yG⟩,yF,rfl,rfl⟩ (by show 1-1<1-x.1;omega)
 ·have c2:x.1=1:=by
   have h9:=c2;simp at h9;omega
  refine yE (yA (yB (zY (zA (zK 800 ?_)))));refine zL ?_;rw[Ab (x.2.2 c2),Ab (x.2.2 c2)];exact u4 rfl (u6 _)
theorem txPoints_ok(s:ByteArray)(hs:s.size<=4000):Fx 66 [.v (.string s)] (.tup [isD (ptL s),faD (if Lib.validD s.data.toList=true then 0 else 6) (if Lib.validD s.data.toList=true then 0 else-1)]):=by
 have hil:=wG s s.size 0;refine yD zJ Tryz.func66 rfl rfl rfl rfl rfl rfl ?_;intros;refine zK 100 ?_;refine zB ?_;refine zB (zE zJ [] 200 rfl ?_);refine zF ?_;refine zQ _ ((txCheck_ok s hs).args ⟨u18 rfl,trivial⟩) rfl ?_;refine zF ?_;refine zC (zA (zK 300 ?_));refine zU rfl (fun c2=>?_) (fun c2=>?_)
 ·have c2:¬Lib.validD s.data.toList=true:=fun h8=>by have h9:=c2;simp[h8]at h9
  refine zB (zX zJ [] [[],[],[0,1]] 400 yP kr rfl ?_);refine zf (zA (zL (zO ?_)));rw[show ptL s=[]from Aa c2];exact u4 rfl (u19 ⟨u12 rfl,u6 _,trivial⟩)
 ·have c2:Lib.validD s.data.toList=true:=by
   have h9:=c2;by_cases h8:Lib.validD s.data.toList=true
   ·exact h8
   ·simp[h8]at h9
  refine zM (zA (zK 500 ?_));refine yY 5 3 1 rfl ?_;refine zB (zK 600 ?_);refine zP ?_;refine yC (ι:=Itx (itL s s.size 0)) [3,16] [1] 650 (fun x=>[(5,.own 500 1 (((itL s s.size 0).take x.k).map (fun c:Int×Int=>iD c.2)))]) (fun x=>[(500,.row 3 1 (((itL s s.size 0).take x.k).map (fun c:Int×Int=>iD c.2)).length),(502,.itr x.r)]) (fun x=>x.r.length) ⟨0,_,rfl⟩ ?_;refine⟨⟨yG,yF,rfl,rfl⟩,fun x=>?_⟩;obtain⟨k,r,hr⟩:=x;rcases r with _|⟨⟨q,c⟩,r⟩
  ·refine zK 700 ?_;refine zB (zZ (fun c6=>?_) (fun c6=>?_))
   ·
    first|exact absurd c6 (by simp)|(simp at c6;done)|cases c6
   ·
    refine yE (yA (yB (zY (zA (zK 1000 ?_)))));refine zL ?_;rw[show ptL s=ruL s from Ab c2];exact u4 rfl (u19 ⟨SubP.ownSl (by rw[mP0 hr];show _=(List.map _ (List.map _ _));rw[Cw];rfl),u9 (by rw[Ab c2,Ab c2];rfl),trivial⟩)
  ·refine zK 700 ?_;refine zB (zZ (fun c6=>?_) (fun c6=>?_))
   ·
    refine zM (zA (zP (zK 800 ?_)));refine zE zJ [] 900 rfl ?_;repeat(first|refine zH ?_|refine zW (by first|rfl|(simp only[An,As,Du,Am,Au];omega)|(exact⟨by omega,by omega⟩)|exact Fa) ?_)
    refine zC (zN ?_);exact zS (⟨k+1,r,yP1 hr⟩) ⟨⟨Sub.ownRows (by rw[gE0 hr,Ad];exact(RowsP.refl _).append ⟨by rw[(tD0 (kB0 s _ _ (q,c) (drop_mem hr))).1];exact SubPs.refl _,trivial⟩),yG⟩,⟨⟨rfl,rfl,by simp only[An,Ae];rw[mO0 hr];rfl⟩,rfl,yF⟩,rfl,rfl⟩ (by show r.length<((q,c)::r).length;simp)
   ·
    first|exact absurd c6 (by simp)|(simp at c6;done)|cases c6
variable{md me:Bool}
def azQ(a b c z:Int):Int:=if pxB z (jC a b c)=true then a+c*pxJ z (jC a b c)else 0
def azC(a b c z:Int):Int:=if pxB z (jC a b c)=true then 0 else 4
def azE(a b c z:Int):Int:=if pxB z (jC a b c)=true then 0 else-2
theorem az_y{a b c z:Int}(h:pxB z (jC a b c)=true):azQ a b c z=a+c*pxJ z (jC a b c)/\azC a b c z=0/\azE a b c z=0:=⟨Ab h,Ab h,Ab h⟩
theorem az_n{a b c z:Int}(h:¬pxB z (jC a b c)=true):azQ a b c z=0/\azC a b c z=4/\azE a b c z= -2:=⟨Aa h,Aa h,Aa h⟩
theorem add_128{z n:Int}(h0:z<0)(h1:0<=n)(hz:(lim z.natAbs).length<=128)(hn:(lim n.natAbs).length<=128):(lim (z+n).natAbs).length<=128:=by
 rcases(show(z+n).natAbs<=z.natAbs\/(z+n).natAbs<=n.natAbs by omega)with h|h
 ·exact At (qF h) hz
 ·exact At (qF h) hn
theorem rlen_nn(a b c:Int):0<=jC a b c\/c=0:=by
 by_cases h0:c=0
 ·exact .inr h0
 ·left;have h:=dS0 ⟨decide (a<0),a.natAbs,decide (b<0),b.natAbs,decide (c<0),c.natAbs⟩ (show 0<c.natAbs by omega);have h2:=h.2;simp only[bO]at h2;exact h2
set_option maxHeartbeats 1000000 in
theorem rgAtZ_ok(a b c z:Int)(ha:(lim a.natAbs).length<=40)(hb:(lim b.natAbs).length<=40)(hc:(lim c.natAbs).length<=40)(h0:c≠0)(hz:(lim z.natAbs).length<=128):Fx 129 [.agg (rgD a b c),.agg (zV z)] (.tup [.agg (zV (azQ a b c z)),faD (azC a b c z) (azE a b c z)]):=by
 have hcp:0<(lim c.natAbs).length:=Db.2 (fun e=>by rw[lim_nil]at e;omega);have hn:=rlen_sz ha hb h0;have hn8:(lim (jC a b c).natAbs).length<=128:=by omega
 have hnn:0<=jC a b c:=(rlen_nn a b c).resolve_right h0;have hk:=zOk (z:=z) om;refine yD zJ Tryz.func129 rfl rfl rfl rfl rfl rfl ?_;intros;refine zK 100 ?_;refine zB (zP ?_);refine zB (zE zJ [] 200 rfl ?_);refine zF ?_;refine zQ _ (rgValid_ok a b c ha hb hc hcp) rfl ?_;refine zF ?_;refine zC (zA (zZ (fun c1=>?_) (fun c1=>?_)))
 ·
  exact absurd c1 de
 ·
  refine zB (zE zJ [] 400 rfl ?_);refine zF ?_;refine zQ _ ((gG (decide (z<0)) (lim z.natAbs) om).out (u7 hk)) rfl ?_;refine zF ?_;refine zC (zA (zZ (fun c3=>?_) (fun c3=>?_)))
  ·
   exact absurd c3 de
  ·
   refine zM (zN (zA ?_));refine zB (zE zJ [] 600 rfl ?_);refine zF ?_;refine zQ _ (rgLength0_ok a b c ha hb hc h0) rfl ?_;refine zF ?_;refine zC (zA (zB (zK 700 ?_)));refine zU rfl (fun c6=>?_) (fun c6=>?_)
   ·have c6:z<0:=by simpa using c6
    have hadd:=add_128 c6 hnn hz hn8;refine zE zJ [] 800 rfl ?_;refine zF ?_;refine zQ _ (tN z (jC a b c) hz hn8 hadd) rfl ?_;refine zf (zA (zB ?_));refine zB (zE zJ [] 900 rfl ?_);refine zF ?_;refine yR _ (fun hg5=>pI (z+jC a b c) (jC a b c) hadd hn8) rfl ?_;refine zF ?_;refine zC (zA (zU rfl (fun c8=>?_) (fun c8=>?_)))
    ·have hJ:pxJ z (jC a b c)=z+(jC a b c):=Ab c6;have c8:¬pxB z (jC a b c)=true:=by
      have h9:=c8;rw[pxB_iff,hJ];simp at h9;omega
     refine zB (zE zJ [] 1000 rfl ?_);refine zF ?_;refine zQ _ (cO0 4 (-2)) rfl ?_;refine zf (zA (zL (zO ?_)));obtain⟨e1,e2,e3⟩:=az_n c8;rw[e1,e2,e3];exact u4 rfl (u19 ⟨u20 ⟨u6 _,by rw[show(0:Int).natAbs=0 from rfl,qI];exact u12 rfl,trivial⟩,u6 _,trivial⟩)
    ·have hJ:pxJ z (jC a b c)=z+(jC a b c):=Ab c6;have c8:pxB z (jC a b c)=true:=by
      have h9:=c8;rw[pxB_iff,hJ];simp at h9;omega
     obtain⟨j0,j1⟩:=pxB_iff.1 c8;obtain⟨z1,z2⟩:=jS1 ha hb h0 j0 j1;have hjl:(lim (pxJ z (jC a b c)).natAbs).length<=128:=At (qF om) hn8;rw[hJ]at z1 z2 hjl;refine zM (zA ?_);refine zB (zE zJ [] 1100 rfl ?_);refine zF ?_;refine zQ _ (vV0 a b c (z+jC a b c) om om hjl om om) rfl ?_;refine zf (zA (zL ?_));obtain⟨e1,e2,e3⟩:=az_y c8;rw[e1,e2,e3,hJ];exact u4 rfl (u6 _)
   ·have c6:¬z<0:=by simpa using c6
    refine zM (zA (zB ?_));refine zB (zE zJ [] 900 rfl ?_);refine zF ?_;refine yR _ (fun hg5=>pI z (jC a b c) hz hn8) rfl ?_;refine zF ?_;refine zC (zA (zU rfl (fun c8=>?_) (fun c8=>?_)))
    ·have hJ:pxJ z (jC a b c)=z:=Aa c6;have c8:¬pxB z (jC a b c)=true:=by
      have h9:=c8;rw[pxB_iff,hJ];simp at h9;omega
     refine zB (zE zJ [] 1000 rfl ?_);refine zF ?_;refine zQ _ (cO0 4 (-2)) rfl ?_;refine zf (zA (zL (zO ?_)));obtain⟨e1,e2,e3⟩:=az_n c8;rw[e1,e2,e3];exact u4 rfl (u19 ⟨u20 ⟨u6 _,by rw[show(0:Int).natAbs=0 from rfl,qI];exact u12 rfl,trivial⟩,u6 _,trivial⟩)
    ·have hJ:pxJ z (jC a b c)=z:=Aa c6;have c8:pxB z (jC a b c)=true:=by
      have h9:=c8;rw[pxB_iff,hJ];simp at h9;omega
     obtain⟨j0,j1⟩:=pxB_iff.1 c8;obtain⟨z1,z2⟩:=jS1 ha hb h0 j0 j1;have hjl:(lim (pxJ z (jC a b c)).natAbs).length<=128:=At (qF om) hn8;rw[hJ]at z1 z2 hjl;refine zM (zA ?_);refine zB (zE zJ [] 1100 rfl ?_);refine zF ?_;refine zQ _ (vV0 a b c z om om hjl om om) rfl ?_;refine zf (zA (zL ?_));obtain⟨e1,e2,e3⟩:=az_y c8;rw[e1,e2,e3,hJ];exact u4 rfl (u6 _)
theorem opRangeOf_ok(o:Ob)(ho:RgO o):Fx 130 [.agg (obD o)] (.agg (rgD (rA o) (rB o) (rC o))):=by
 refine yD zJ Tryz.func130 rfl rfl rfl rfl rfl rfl ?_;intros;refine zB (zE zJ [] 100 rfl ?_);repeat(first|refine zH ?_|refine zW (by first|exact trivial|(refine⟨by decide,?_⟩;have:=ho.n;show _<o.items.length;omega)|(refine⟨by decide,?_⟩;have:=ho.n;simp only[An];show _<o.items.length;omega)) ?_)
 refine zC (zA ?_);refine zB (zX zJ [] [[],[0],[0,1],[0,1,2],[0,1,2,3],[],[5],[5,6],[5,6,7],[5,6,7,8],[],[10],[10,11],[10,11,12],[10,11,12,13],(rgN 15),(rgN 16)] 200 yP kr rfl ?_);repeat(first|refine zH ?_|refine zW (by first|exact trivial|(refine⟨by decide,?_⟩;have:=ho.n;show _<o.items.length;omega)|(refine⟨by decide,?_⟩;have:=ho.n;simp only[An];show _<o.items.length;omega)) ?_)
 refine zC (zA (zL ?_));exact u4 rfl (u9 (congrArg D.agg ho.dat))
theorem opMember_ok(o:Ob)(x:Vl)(ho:RgO o)(hg:Lg x.nl)(hv:qH x=true):Fx 65 [.agg (obD o),.agg (vlD x)] (.agg (stD (sbR o x))):=by
 obtain⟨hz1,hz2⟩:=gM1 hg hv;refine yD zJ Tryz.func65 rfl rfl rfl rfl rfl rfl ?_;intros;refine zK 100 ?_;refine zB (zK 200 ?_);refine zU rfl (fun c1=>?_) (fun c1=>?_)
 ·have c1:¬x.k=2:=by simpa using c1
  refine zB (zE zJ [] 300 rfl ?_);refine zF ?_;refine zQ _ (wF _ _) rfl ?_;refine zf (zA (zL (zO ?_)));rw[show sbR o x=_ from Ab c1];exact u4 rfl (u6 _)
 ·have c1:x.k=2:=by simpa using c1
  refine zM (zA ?_);refine zB (zX zJ [] [[],[0],[],[2],[0,1,2,3],(rgN 5),(rgN 6),(rgN 6),[],[],[0,1,2,3,4,5,6,8,9],(rgN 11)] 400 yP kr rfl ?_);refine zF ?_;refine zQ _ (opRangeOf_ok o ho) rfl ?_;refine zF ?_;refine zQ _ ((rgAtZ_ok (rA o) (rB o) (rC o) (pxI x) ho.siz.1 ho.siz.2.1 ho.siz.2.2.1 ho.siz.2.2.2 hz2).args ⟨u6 _,u9 (congrArg D.agg hz1),trivial⟩) rfl ?_;refine zF ?_;refine zC (zA (zB (zK 500 ?_)));refine zU rfl (fun c4=>?_) (fun c4=>?_)
  ·have c4:¬pxB (pxI x) (rlO o)=true:=fun h8=>by have h9:=c4;rw[(az_y (a:=rA o) (b:=rB o) (c:=rC o) h8).2.1]at h9;exact absurd h9 de
   refine zB (zE zJ [] 600 rfl ?_);refine zF ?_;refine zQ _ (wF _ _) rfl ?_;refine zf (zA (zL (zO ?_)));rw[show sbR o x=_ from(Aa (not_not_intro c1)).trans (Aa c4)];exact u4 rfl (u6 _)
  ·have c4:pxB (pxI x) (rlO o)=true:=by
    have h9:=c4;by_cases h8:pxB (pxI x) (rlO o)=true
    ·exact h8
    ·rw[(az_n (a:=rA o) (b:=rB o) (c:=rC o) h8).2.1]at h9;exact absurd h9 de
   refine zM (zA ?_);refine zB (zE zJ [] 700 rfl ?_);refine zF ?_;refine zQ _ ((xI (nuV (azQ (rA o) (rB o) (rC o) (pxI x)))).args ⟨(by repeat(first|exact trivial|exact u6 _|exact u12 rfl|refine u20 ?_|refine⟨?_,?_⟩)),trivial⟩) rfl ?_;refine zf (zA (zL ?_));rw[show sbR o x=_ from(Aa (not_not_intro c1)).trans (Ab c4),<-show azQ (rA o) (rB o) (rC o) (pxI x)=rA o+rC o*pxJ (pxI x) (rlO o)from(az_y c4).1];exact u4 rfl (u6 _)
theorem sb_n{h:List Ob}{v x:Vl}(h3:¬(zT h v).kind=3)(h5:¬(zT h v).kind=5)(hq:(v.k=4\/v.k=5)\/(zT h v).kind=1\/(zT h v).kind=2):sbS h v x=sbE h v x:=(Aa h3).trans ((Aa h5).trans (Ab hq))
theorem jH1{h:List Ob}{v x:Vl}(h1:(poS x (elS h v).length).k=1):sbE h v x=poS x (elS h v).length:=Ab h1
theorem jI1{h:List Ob}{v x:Vl}(h3:¬((zT h v).kind=3\/(zT h v).kind=4))(h1:¬(poS x (elS h v).length).k=1):sbE h v x=elmS h v vl0 (poQ x (elS h v).length):=by
 obtain⟨_,p1,p2⟩:=(yS0 (v:=x) (n:=(elS h v).length)).resolve_left h1;rw[(elm_doc (z:=vl0) p1 (fun hk=>absurd hk h3)).1 p2];exact Aa h1
theorem pt_len{h:List Ob}{v:Vl}(hv:qH v=true)(h4:v.k=4):ptL v.s=ruL v.s/\(elS h v).length=(ruL v.s).length:=by
 refine⟨Ab ?_,by rw[yO1,Ab h4]⟩;unfold qH at hv;rw[Aa om,Aa om,Aa om,Aa om,Ab h4]at hv;simp only[Aj]at hv;exact hv.1.2
theorem tG0{h:List Ob}{v:Vl}(hv:qH v=true)(hq:(v.k=4\/v.k=5)\/(zT h v).kind=1\/(zT h v).kind=2\/(zT h v).kind=5):v.s.size<=4000:=by
 have h6:¬(v.k=4\/v.k=5)->v.k=6:=fun hn9=>by
  rcases hq with hq|hq
  ·exact absurd hq hn9
  ·exact(jR (h:=h) (v:=v) om).1
 unfold qH at hv;by_cases h4:v.k=4
 ·rw[Aa om,Aa om,Aa om,Aa om,Ab h4]at hv;simp only[Aj,Ap]at hv;omega
 by_cases h5:v.k=5
 ·rw[Aa om,Aa om,Aa om,Aa om,Aa om,Ab h5]at hv;simp only[Aj,Ap]at hv;omega
 have h6:=h6 om;rw[Aa om,Aa om,Aa om,Aa om,Aa om,Aa om,Aa om,Ab h6]at hv;simp only[Aj,emS,Ap]at hv;rw[hv.2];decide
theorem bP0{P:Program}{E:Pn}{K:DS->Prop}{p:Prop}{r:Out}(hr:r.sat P E K)(hp:p:=by first|exact⟨hpo.2.1,by rw[hpl]at hpo;omega⟩|exact Fa):(Out.need p r).sat P E K:=⟨hp,hr⟩
theorem gB1{P:Program}{E:Pn}{K:DS->Prop}{p:Prop}{r:Out}(hr:r.sat P E K)(hp:p:=by first|exact⟨hpo.2.1,by rw[hpl]at hpo;omega⟩|exact⟨hpo.2.1,by rw[An];rw[hpl]at hpo;omega⟩|exact Fa):(Out.need p r).sat P E K:=⟨hp,hr⟩
set_option maxHeartbeats 2000000 in
theorem opElement_G(h:List Ob)(v x:Vl)(hh:HpIn h)(g:Uh h)(hvv:Vd h v)(hiv:VlIn v)(hxg:Lg x.nl)(hxv:qH x=true)(hr:(zT h v).kind=5->RgO (zT h v))(hq:((v.k=4\/v.k=5)\/(zT h v).kind=1\/(zT h v).kind=2\/(zT h v).kind=5)):FnG Tryz.prog 21 [.bp 0 0,.agg (vlD v),.agg (vlD x)] (hpO h) (.agg (stD (sbS h v x))) (hpO h):=by
 have hsz:=tG0 hvv.1 hq;have hkl:=uO g v;have hel:=yO1 (h:=h) (v:=v);have hil:=wG v.s v.s.size 0;have hrl:(ruL v.s).length<=v.s.size:=by unfold ruL;rw[An];exact hil
 have k0:(v.k=4\/v.k=5)->(zT h v).kind=0:=pM0;have h3:¬(zT h v).kind=3:=by omega
 refine uE zJ Tryz.func21 rfl rfl rfl rfl rfl rfl rfl ?_;intros;refine zK 100 ?_;refine zB (zX zJ [] mK1 200 yP kr rfl ?_);refine zF ?_;refine yZ _ (vJ h v hvv.2) rfl rfl ?_;refine zF ?_;refine zC (zA (zB (zK 300 ?_)));refine zU rfl (fun c2=>?_) (fun c2=>?_)
 ·have c2:(zT h v).kind=5:=by simpa using c2
  refine zB (zE zJ [] 400 rfl ?_);refine zF ?_;refine zQ _ (opMember_ok (zT h v) x (hr c2) hxg hxv) rfl ?_;refine zf (zA (zL (zO ?_)));rw[show sbS h v x=sbR (zT h v) x from(Aa h3).trans (Ab c2)];exact u11 2 rfl rfl (Sub.ofP (u20 (by repeat(first|exact trivial|exact u6 _|exact u12 rfl|refine u20 ?_|refine⟨?_,?_⟩))) rfl rfl) ⟨⟨rfl,Sub.mo (by simp),rfl,trivial⟩,SubO.mp rfl,trivial⟩
 ·have c2:¬(zT h v).kind=5:=by simpa using c2
  refine zM (zA ?_);refine zB (zE zJ [] 500 rfl ?_);refine zF ?_;refine zQ _ (txPoints_ok v.s hsz) rfl ?_;refine zF ?_;refine zC (zA (zK 600 ?_));refine zB (zK 700 ?_);refine zP (zK 800 ?_);refine zU rfl (fun c7=>?_) (fun c7=>?_)
  ·have c7:v.k=4:=by simpa using c7
   obtain⟨p1,p2⟩:=pt_len (h:=h) hvv.1 c7;have hpl:(elS h v).length=(ptL v.s).length:=by rw[p1,p2]
   have hp4:(ptL v.s).length<=4000:=by rw[p1];omega
   refine yM zJ [] 900 ?_;refine zN (zA ?_);refine zB (zE zJ [] 1200 rfl ?_);refine zF ?_;refine zQ _ ((uY x (((ptL v.s).length:Nat):Int) hxg hxv om om).out (u9 (by rw[<-hpl]))) rfl ?_;refine zF ?_;refine zC (zA (zB (zP (zK 1300 ?_))));refine zU rfl (fun c12=>?_) (fun c12=>?_)
   ·have c12:(poS x (elS h v).length).k=1:=by simpa using c12
    refine zK 1400 ?_;refine zL (zR (zO ?_));rw[sb_n h3 c2 om,jH1 c12];exact u11 2 rfl rfl (Sub.ofP (u20 (by repeat(first|exact trivial|exact u6 _|exact u12 rfl|refine u20 ?_|refine⟨?_,?_⟩))) rfl rfl) ⟨⟨rfl,Sub.mo (by simp),rfl,trivial⟩,SubO.mp rfl,trivial⟩
   ·have c12:¬(poS x (elS h v).length).k=1:=by simpa using c12
    have hpo:=(yS0 (v:=x) (n:=(elS h v).length)).resolve_left c12;refine zK 1500 ?_;refine zU rfl (fun c14=>?_) (fun c14=>?_)
    ·have c14:v.k=4:=by simpa using c14
     refine zB (zE zJ [] 1600 rfl ?_);repeat(first|refine zH ?_|refine bP0 ?_)
     refine zQ _ (heapText_ok _) rfl ?_;repeat(first|refine zH ?_|refine bP0 ?_)
     refine zQ _ (xI _) rfl ?_;repeat(first|refine zH ?_|refine bP0 ?_)
     refine zC (zA (zL (zR (zO ?_))));rw[sb_n h3 c2 om,jI1 om c12];exact u11 2 rfl rfl (Sub.ofP (u9 (by rw[p1,(tD0 ruL_max).2];unfold elmS;rw[Ab c14,Ab (by rw[<-p2];exact hpo.2.2)];rfl)) rfl rfl) ⟨⟨rfl,Sub.mo (by simp),rfl,trivial⟩,SubO.mp rfl,trivial⟩
    ·have c14:¬v.k=4:=by simpa using c14
     first|omega|exact absurd c14 c7|exact absurd c7 c14
  ·have c7:¬v.k=4:=by simpa using c7
   rw[Aa c7]at hel;refine zK 1000 ?_;refine zU rfl (fun c9=>?_) (fun c9=>?_)
   ·have c9:v.k=5:=by simpa using c9
    have hpl:(elS h v).length=v.s.size:=by rw[hel,Ab c9]
    refine yM zJ [] 1100 ?_;refine zN (zA ?_);refine zB (zE zJ [] 1200 rfl ?_);refine zF ?_;refine zQ _ ((uY x ((v.s.size:Nat):Int) hxg hxv om om).out (u9 (by rw[<-hpl]))) rfl ?_;refine zF ?_;refine zC (zA (zB (zP (zK 1300 ?_))));refine zU rfl (fun c12=>?_) (fun c12=>?_)
    ·have c12:(poS x (elS h v).length).k=1:=by simpa using c12
     refine zK 1400 ?_;refine zL (zR (zO ?_));rw[sb_n h3 c2 om,jH1 c12];exact u11 2 rfl rfl (Sub.ofP (u20 (by repeat(first|exact trivial|exact u6 _|exact u12 rfl|refine u20 ?_|refine⟨?_,?_⟩))) rfl rfl) ⟨⟨rfl,Sub.mo (by simp),rfl,trivial⟩,SubO.mp rfl,trivial⟩
    ·have c12:¬(poS x (elS h v).length).k=1:=by simpa using c12
     have hpo:=(yS0 (v:=x) (n:=(elS h v).length)).resolve_left c12;refine zK 1500 ?_;refine zU rfl (fun c14=>?_) (fun c14=>?_)
     ·have c14:v.k=4:=by simpa using c14
      first|omega|exact absurd c14 c7|exact absurd c7 c14
     ·have c14:¬v.k=4:=by simpa using c14
      refine zK 1700 ?_;refine zU rfl (fun c16=>?_) (fun c16=>?_)
      ·have c16:v.k=5:=by simpa using c16
       refine zB (zE zJ [] 1800 rfl ?_);repeat(first|refine zH ?_|refine bP0 ?_)
       refine zQ _ (heapInt_ok _ (by rw[by64];omega) (by rw[by64];have:=xQ0 v.s (poQ x (elS h v).length).toNat;omega)) rfl ?_;repeat(first|refine zH ?_|refine bP0 ?_)
       refine zQ _ (xI _) rfl ?_;repeat(first|refine zH ?_|refine bP0 ?_)
       refine zC (zA (zL (zR (zO ?_))));rw[sb_n h3 c2 om,jI1 om c12];exact u11 2 rfl rfl (Sub.ofP (u9 (by unfold elmS;rw[Aa om,Ab c16,Ab (by rw[<-hpl];exact hpo.2.2),by64];rfl)) rfl rfl) ⟨⟨rfl,Sub.mo (by simp),rfl,trivial⟩,SubO.mp rfl,trivial⟩
      ·have c16:¬v.k=5:=by simpa using c16
       first|omega|exact absurd c16 c9|exact absurd c9 c16
   ·have c9:¬v.k=5:=by simpa using c9
    have hpl:(elS h v).length=(zT h v).items.length:=by rw[hel,Aa c9,Aa (by omega)]
    refine zM (zN (zA ?_));refine zB (zE zJ [] 1200 rfl ?_);refine zF ?_;refine zQ _ ((uY x (((zT h v).items.length:Nat):Int) hxg hxv om om).out (u9 (by rw[<-hpl]))) rfl ?_;refine zF ?_;refine zC (zA (zB (zP (zK 1300 ?_))));refine zU rfl (fun c12=>?_) (fun c12=>?_)
    ·have c12:(poS x (elS h v).length).k=1:=by simpa using c12
     refine zK 1400 ?_;refine zL (zR (zO ?_));rw[sb_n h3 c2 om,jH1 c12];exact u11 2 rfl rfl (Sub.ofP (u20 (by repeat(first|exact trivial|exact u6 _|exact u12 rfl|refine u20 ?_|refine⟨?_,?_⟩))) rfl rfl) ⟨⟨rfl,Sub.mo (by simp),rfl,trivial⟩,SubO.mp rfl,trivial⟩
    ·have c12:¬(poS x (elS h v).length).k=1:=by simpa using c12
     have hpo:=(yS0 (v:=x) (n:=(elS h v).length)).resolve_left c12;refine zK 1500 ?_;refine zU rfl (fun c14=>?_) (fun c14=>?_)
     ·have c14:v.k=4:=by simpa using c14
      first|omega|exact absurd c14 c7|exact absurd c7 c14
     ·have c14:¬v.k=4:=by simpa using c14
      refine zK 1700 ?_;refine zU rfl (fun c16=>?_) (fun c16=>?_)
      ·have c16:v.k=5:=by simpa using c16
       first|omega|exact absurd c16 c9|exact absurd c9 c16
      ·have c16:¬v.k=5:=by simpa using c16
       refine zM (zN (zA ?_));refine zB (zE zJ [] 1900 rfl ?_);repeat(first|refine zH ?_|refine gB1 ?_)
       refine zQ _ (xI _) rfl ?_;repeat(first|refine zH ?_|refine gB1 ?_)
       refine zC (zA (zL ?_));rw[sb_n h3 c2 om,jI1 om c12];exact u11 2 rfl rfl (Sub.ofP (u9 (by unfold elmS atS;rw[Aa om,Aa om,Aa om,Ab (by rw[<-hpl];exact hpo.2.2)];rfl)) rfl rfl) ⟨⟨rfl,Sub.mo (by simp),rfl,trivial⟩,SubO.mp rfl,trivial⟩
theorem gA1{P:Program}{E:Pn}{K:DS->Prop}{p:Prop}{r:Out}(hr:r.sat P E K)(hp:p:=by first|exact⟨by omega,by omega⟩|exact⟨by omega,by rw[An];omega⟩|exact Fa):(Out.need p r).sat P E K:=⟨hp,hr⟩
theorem zD0(h:List Ob)(v x:Vl)(hh:HpIn h)(g:Uh h)(hv:v.k=6->qA h v.r=true)(hk:(zT h v).kind=3)(hx:Vd h x):Fx 22 [hpD md h,.agg (vlD v),.agg (vlD x)] (.agg (stD (sbL h v x))):=by
 have ka:=bX0 g hv om;have hil:=mA g hk;refine yD zJ Tryz.func22 rfl rfl rfl rfl rfl rfl ?_;intros;refine zK 100 ?_;refine zB ?_;refine zB (zE zJ [] 200 rfl ?_);refine zF ?_;refine zQ _ (pK0 h x hh g hx) rfl ?_;refine zF ?_;refine zC (zA (zK 300 ?_));refine zU rfl (fun c2=>?_) (fun c2=>?_)
 ·have c2:¬(keyR h x).k=0:=by simpa using c2
  refine zK 400 ?_;refine zL (zO ?_);rw[show sbL h v x=_ from Ab c2];exact u4 rfl (u6 _)
 ·have c2:(keyR h x).k=0:=by simpa using c2
  obtain⟨hkd,hke⟩:=zQ1 g hx c2;refine zM (zA ?_);refine zB (zE zJ [] 500 rfl ?_);refine zF ?_;refine zQ _ (vJ h v hv) rfl ?_;refine zf (zA ?_);refine zB (zE zJ [] 600 rfl ?_);refine zF ?_;refine zQ _ (dY h (zT h v).keys x hh g hkd hx ka.vd) rfl ?_;refine zF ?_;refine zC (zA (zB (zK 700 ?_)));refine zU rfl (fun c6=>?_) (fun c6=>?_)
  ·have c6:plI h (zT h v).keys x<0:=by simpa using c6
   refine zK 800 ?_;refine zL (zO ?_);rw[show sbL h v x=_ from(Aa (not_not_intro c2)).trans (Ab c6)];exact u4 rfl (u20 (by repeat(first|exact trivial|exact u6 _|exact u12 rfl|exact u18 rfl|refine⟨?_,?_⟩)))
  ·have c6:¬plI h (zT h v).keys x<0:=by simpa using c6
   have hph:=mQ (by omega:0<=plI h (zT h v).keys x);refine zM (zA ?_);refine zB (zE zJ [] 900 rfl ?_);repeat(first|refine zH ?_|refine gA1 ?_)
   refine zQ _ (xI _) rfl ?_;repeat(first|refine zH ?_|refine gA1 ?_)
   refine zC (zA (zL ?_));rw[show sbL h v x=_ from(Aa (not_not_intro c2)).trans (Aa c6)];exact u4 rfl (u6 _)
def itB(n:Int):ByteArray:=⟨(Lib.itoa n).toArray⟩
def quB(s:ByteArray):ByteArray:=strOfNums (Lib.quoteZ Lib.goPrintTabs s)
theorem pY0{n:Int}(h0: -9223372036854775808<=n)(h1:n<=9223372036854775807):(itB n).size<=21:=by
 have:=Lib.itoa_length_le n h0 h1;simpa[itB,ByteArray.size]using this
theorem tP(s:ByteArray):(quB s).size<=10*s.size+2:=by
 have:=Lib.quoteZ_length_le Lib.goPrintTabs s;rw[quB,strOfNums_size];exact this
def hxL(x:Nat):List Nat:=if h:x=0 then []else x%16::hxL (x/16)
termination_by x
decreasing_by omega
theorem pT:hxL 0=[]:=by rw[hxL];rfl
theorem uD0{x:Nat}(h:x≠0):hxL x=x%16::hxL (x/16):=by rw[hxL,dif_neg h]
theorem vE1:∀{n x d:Nat},x<n->d∈hxL x->d<16
 |0,x,d,h,_=>by omega
 |n+1,x,d,h,hd=>by
  by_cases h0:x=0
  ·subst h0;rw[pT]at hd;cases hd
  ·rw[uD0 h0]at hd;rcases Bi.1 hd with rfl|hd
   ·exact Cx _ de
   ·exact vE1 (n:=n) om hd
theorem kC0:∀{n x:Nat},x<16^n->(hxL x).length<=n
 |0,x,h=>by
  have:x=0:=by simpa using h
  subst this;rw[pT];exact Ar 0
 |n+1,x,h=>by
  by_cases h0:x=0
  ·subst h0;rw[pT];exact Aq _
  ·rw[uD0 h0,Am];have:=kC0 (n:=n) (x:=x/16) (by rw[By]at h;omega);omega
def alB:ByteArray:=⟨#[48,49,50,51,52,53,54,55,56,57,97,98,99,100,101,102,103,104,105,106,107,108,109,110,111,112,113,114,115,116,117,118,119,120,121,122]⟩
def hxS(b:Bool)(x:Nat):ByteArray:=if x=0 then⟨#[48]⟩else⟨((if b then [45]else [])++(hxL x).reverse.map fun d=>UInt8.ofNat (bAt alB d)).toArray⟩
theorem tX{b:Bool}{l:List Nat}(h:Lg l):(hxS b (VL l)).size<=8*l.length+2:=by
 have h1:=L_lt h;have h2:(hxL (VL l)).length<=8*l.length:=kC0 (by rw[Nat.pow_mul];exact h1);unfold hxS;split
 ·show 1<=_;omega
 ·have h3:(if b=true then [(45:UInt8)]else []).length<=1:=by split<;>decide
  show(List.toArray _).size<=_;rw[Cl,Ae,An,Ey];omega
structure Skt where
 ord:List Int
 out:List UInt8
def sB(n:UInt8):ByteArray:=⟨#[n]⟩
def Skt.w(k:Skt)(s:ByteArray):Skt:=⟨k.ord,k.out++s.data.toList⟩
def Skt.n(k:Skt)(n:Int):Skt:=k.w (itB n++sB 32)
def Skt.see(b:Int)(k:Skt)(n:Int):Skt:=
 if n<b then(k.w (sB 35)).n n
 else if ixI k.ord n<0 then((⟨k.ord++[n],k.out⟩:Skt).w (sB 64)).n (k.ord.length:Nat)
 else(k.w (sB 64)).n (ixI k.ord n)
def vlT(v:Vl):ByteArray:=quB v.s++sB 32++hxS v.nn (VL v.nl)++sB 32++hxS v.dn (VL v.dl)++sB 44
def Skt.v(b:Int)(k:Skt)(v:Vl):Skt:=if v.k=6 then k.see b v.r else((k.n v.k).n v.r).w (vlT v)
def Skt.vs(b:Int)(k:Skt)(l:List Vl):Skt:=(l.foldl (Skt.v b) k).w (sB 124)
def Skt.o1(_:Int)(k:Skt)(o:Ob):Skt:=(((k.w (sB 10)).n o.kind).n o.code).w (quB o.name)
def Skt.o2(k:Skt)(l:List ByteArray):Skt:=l.foldl (fun k s=>k.w (s++sB 44)) k
def Skt.o3(b:Int)(e:Bool)(k:Skt)(o:Ob):Skt:=if o.kind=18/\0<o.state then k.see b (o.state-1)else if ¬o.kind=9\/e=true then k.n o.state else k
def Skt.o4(b:Int)(k:Skt)(o:Ob):Skt:=if o.kind=10\/o.kind=7 then k.see b o.cls else k
def Skt.o5(b:Int)(e:Bool)(k:Skt)(o:Ob):Skt:=((if e=true then o.order else []).foldl (Skt.see b) (o.refs.foldl (Skt.see b) (k.w (sB 59)))).w (sB 124)
def Skt.ob(b:Int)(e:Bool)(k:Skt)(o:Ob):Skt:=((((((k.o1 b o).o2 o.names).o3 b e o).o4 b o).o5 b e o).vs b o.keys).vs b o.items
def cV(v:Vl):Nat:=60+10*v.s.size+8*v.nl.length+8*v.dl.length
def cVs(l:List Vl):Nat:=(l.map cV).sum+1
def cO(o:Ob):Nat:=120+10*o.name.size+(o.names.map fun s=>s.size+1).sum+23*o.refs.length+23*o.order.length+cVs o.keys+cVs o.items
theorem bN0(k:Skt)(s:ByteArray):(k.w s).out.length=k.out.length+s.size/\(k.w s).ord=k.ord:=⟨by show(k.out++s.data.toList).length=_;rw[Ae];rfl,rfl⟩
theorem wT1{k:Skt}{n:Int}(h0: -9223372036854775808<=n)(h1:n<=9223372036854775807):(k.n n).out.length<=k.out.length+22/\(k.n n).ord=k.ord:=by
 have:=pY0 h0 h1;refine⟨?_,rfl⟩;rw[Skt.n,(bN0 _ _).1,Da];show _+(_+1)<=_;omega
theorem gZ0{α:Type} [DecidableEq α]:∀(l:List α)(n:α),ixI l n<l.length
 |[],n=>by show(-1:Int)<((0:Nat):Int);omega
 |x::l,n=>by
  have:=gZ0 l n;rw[ixI,Am];split
  ·omega
  ·split<;>omega
structure SkI(b:Int)(N:Nat)(k:Skt):Prop where
 mem:∀n∈k.ord,b<=n/\n<(N:Int)
 nd:k.ord.Nodup
theorem qD0:∀{N:Nat}{l:List Int},l.Nodup->(∀n∈l,0<=n/\n<(N:Int))->l.length<=N
 |0,[],_,_=>Ar 0
 |0,x::l,_,h=>by have:=h x Bc;omega
 |N+1,l,hn,h=>by
  have h1:(l.filter fun n=>decide (n≠(N:Int))).Nodup:=hn.filter _;have h2:=qD0 (N:=N) h1 fun n hm=>by
   obtain⟨hm,hd⟩:=List.mem_filter.1 hm;have:=h n hm;have:=Ag hd;omega
  have h3:(l.filter fun n=> !decide (n≠(N:Int))).length<=1:=by
   have h4:(l.filter fun n=> !decide (n≠(N:Int))).Nodup:=hn.filter _;generalize hL:(l.filter fun n=> !decide (n≠(N:Int)))=L at*;have h5:∀n∈L,n=(N:Int):=fun n hm=>by
    rw[<-hL]at hm;have:=(List.mem_filter.1 hm).2;simpa using this
   match L,h4,h5 with
   |[],_,_=>exact Aq _
   |[_],_,_=>exact Ar _
   |a::c::L,h4,h5=>
    have e1:=h5 a Bc;have e2:=h5 c (Be _ Bc);rw[List.nodup_cons]at h4;exact absurd (by rw[e1,e2];exact Bc) h4.1
  have h6:l.length=(l.filter fun n=>decide (n≠(N:Int))).length+(l.filter fun n=> !decide (n≠(N:Int))).length:=by
   clear hn h h1 h2 h3;induction l with
   |nil=>rfl
   |cons x l ih=>
    rw[Eu,Eu,Am,ih];by_cases hx:x=(N:Int)
    ·simp[hx];omega
    ·simp[hx];omega
  omega
theorem SkI.len{b:Int}{N:Nat}{k:Skt}(h:SkI b N k)(hb:0<=b):k.ord.length<=N:=qD0 h.nd fun n hn=>by have:=h.mem n hn;omega
theorem ixI_neg{l:List Int}{n:Int}(h:ixI l n<0):n∉l:=fun hm=>by
 have h1:=gY0 l n;have h2:hasB l n=true:=by simpa[hasB]using hm
 rw[h2]at h1;have:=Ag h1;omega
structure SkS(b:Int)(N:Nat)(k k':Skt)(c:Nat):Prop where
 inv:SkI b N k'
 len:k'.out.length<=k.out.length+c
 pre:∃r,k'.ord=k.ord++r
theorem SkS.refl{b:Int}{N:Nat}{k:Skt}(h:SkI b N k):SkS b N k k 0:=⟨h,by omega,[],by simp⟩
theorem SkS.trans{b:Int}{N:Nat}{k k' k'':Skt}{c d:Nat}(h:SkS b N k k' c)(g:SkS b N k' k'' d):SkS b N k k'' (c+d):=by
 obtain⟨r,hr⟩:=h.pre;obtain⟨q,hq⟩:=g.pre;exact⟨g.inv,by have:=h.len;have:=g.len;omega,r++q,by rw[hq,hr,Cg]⟩
theorem SkS.le{b:Int}{N:Nat}{k k':Skt}{c d:Nat}(h:SkS b N k k' c)(hc:c<=d):SkS b N k k' d:=⟨h.inv,by have:=h.len;omega,h.pre⟩
theorem w_ok{b:Int}{N:Nat}{k:Skt}(h:SkI b N k)(s:ByteArray):SkS b N k (k.w s) s.size:=⟨⟨h.mem,h.nd⟩,by rw[(bN0 _ _).1];omega,[],by simp[Skt.w]⟩
theorem n_ok{b:Int}{N:Nat}{k:Skt}(h:SkI b N k){n:Int}(h0: -9223372036854775808<=n)(h1:n<=9223372036854775807):SkS b N k (k.n n) 22:=⟨⟨h.mem,h.nd⟩,(wT1 h0 h1).1,[],by simp[Skt.n,Skt.w]⟩
theorem vR0{b:Int}{N:Nat}{k:Skt}{n:Int}(h:SkI b N k)(hb:0<=b)(hN:N<=1000000000)(h0: -9223372036854775808<=n)(h1:n<(N:Int)):SkS b N k (k.see b n) 23:=by
 have hl:=h.len hb;unfold Skt.see;split
 ·exact((w_ok h (sB 35)).trans (n_ok (w_ok h (sB 35)).inv h0 om)).le de
 ·split
  ·rename_i hx hi;have hm:=ixI_neg hi;have a:SkS b N k (⟨k.ord++[n],k.out⟩:Skt) 0:=by
    refine⟨⟨fun m hm=>?_,?_⟩,Ar _,[n],rfl⟩
    ·rcases Av.1 hm with hm|hm
     ·exact h.mem m hm
     ·rw[Cc.1 hm];omega
    ·show(k.ord++[n]).Nodup;rw[List.nodup_append];refine⟨h.nd,by simp,fun a ha c hc=>?_⟩;rw[Cc.1 hc];exact fun e=>hm (e▸ha)
   have a2:=a.trans (w_ok a.inv (sB 64));exact(a2.trans (n_ok a2.inv (n:=(k.ord.length:Nat)) om om)).le de
  ·rename_i hx hi;have h2:ixI k.ord n<k.ord.length:=gZ0 _ _;exact((w_ok h (sB 64)).trans (n_ok (w_ok h (sB 64)).inv om om)).le de
theorem cT{b:Int}{N:Nat}(hb:0<=b)(hN:N<=1000000000):∀{l:List Int}{k:Skt},SkI b N k->(∀n∈l,0<=n/\n<(N:Int))->SkS b N k (l.foldl (Skt.see b) k) (23*l.length)
 |[],k,h,_=>SkS.refl h
 |n::l,k,h,hl=>by
  have h1:=hl n Bc;have h2:=vR0 h hb hN (n:=n) om h1.2;exact(h2.trans (cT hb hN (l:=l) h2.inv fun m hm=>hl m (Be _ hm))).le (by rw[Am];omega)
structure VlC(N:Nat)(v:Vl):Prop where
 vin:VlIn v
 r:v.k=6->v.r<(N:Int)
structure ObC(N:Nat)(o:Ob):Prop where
 oin:ObIn o
 st:o.kind=18->o.state-1<(N:Int)
 cls:o.kind=10\/o.kind=7->o.cls<(N:Int)
 refs:∀n∈o.refs,0<=n/\n<(N:Int)
 order:∀n∈o.order,0<=n/\n<(N:Int)
 keys:∀v∈o.keys,VlC N v
 items:∀v∈o.items,VlC N v
theorem mG0{v:Vl}(h:VlIn v):(vlT v).size<=10*v.s.size+8*v.nl.length+8*v.dl.length+9:=by
 have h1:=tP v.s;have h2:=tX (b:=v.nn) h.nl;have h3:=tX (b:=v.dn) h.dl;have e:∀n,(sB n).size=1:=fun _=>rfl;simp only[vlT,Da,e];omega
theorem v_ok{b:Int}{N:Nat}{k:Skt}{v:Vl}(h:SkI b N k)(hb:0<=b)(hN:N<=1000000000)(hv:VlC N v):SkS b N k (k.v b v) (cV v):=by
 unfold Skt.v cV;split
 ·rename_i hk;exact(vR0 h hb hN hv.vin.r1 (hv.r hk)).le om
 ·have h1:=n_ok h hv.vin.k1 hv.vin.k2;have h2:=h1.trans (n_ok h1.inv hv.vin.r1 hv.vin.r2);have h4:=mG0 hv.vin;exact(h2.trans (w_ok h2.inv (vlT v))).le om
theorem tH0{b:Int}{N:Nat}(hb:0<=b)(hN:N<=1000000000):∀{l:List Vl}{k:Skt},SkI b N k->(∀v∈l,VlC N v)->SkS b N k (l.foldl (Skt.v b) k) (l.map cV).sum
 |[],k,h,_=>SkS.refl h
 |v::l,k,h,hl=>by
  have h2:=v_ok h hb hN (hl v Bc);exact(h2.trans (tH0 hb hN (l:=l) h2.inv fun m hm=>hl m (Be _ hm))).le (by rw[Bw,Cn];exact Ar _)
theorem qQ1{b:Int}{N:Nat}{l:List Vl}{k:Skt}(h:SkI b N k)(hb:0<=b)(hN:N<=1000000000)(hl:∀v∈l,VlC N v):SkS b N k (k.vs b l) (cVs l):=by
 have h1:=tH0 hb hN h hl;exact(h1.trans (w_ok h1.inv (sB 124))).le (Ar _)
theorem wR1{b:Int}{N:Nat}:∀{l:List ByteArray}{k:Skt},SkI b N k->SkS b N k (k.o2 l) (l.map fun s=>s.size+1).sum
 |[],k,h=>SkS.refl h
 |s::l,k,h=>by
  have h1:=w_ok h (s++sB 44);refine(h1.trans (wR1 (l:=l) h1.inv)).le ?_;rw[Da,Bw,Cn];exact Ar _
theorem gX1{b:Int}{N:Nat}{k:Skt}{o:Ob}(h:SkI b N k)(ho:ObIn o):SkS b N k (k.o1 b o) (47+10*o.name.size):=by
 have h1:=w_ok h (sB 10);have h2:=h1.trans (n_ok h1.inv ho.kd.1 ho.kd.2);have h3:=h2.trans (n_ok h2.inv ho.co.1 ho.co.2);have h4:=tP o.name;exact(h3.trans (w_ok h3.inv (quB o.name))).le (by show 1+22+22+_<=_;omega)
theorem gW1{b:Int}{N:Nat}{k:Skt}{o:Ob}{e:Bool}(h:SkI b N k)(hb:0<=b)(hN:N<=1000000000)(ho:ObC N o):SkS b N k (k.o3 b e o) 23:=by
 unfold Skt.o3;split
 ·rename_i hk;exact vR0 h hb hN om (ho.st hk.1)
 ·split
  ·exact(n_ok h ho.oin.st.1 ho.oin.st.2).le de
  ·exact(SkS.refl h).le de
theorem gV1{b:Int}{N:Nat}{k:Skt}{o:Ob}(h:SkI b N k)(hb:0<=b)(hN:N<=1000000000)(ho:ObC N o):SkS b N k (k.o4 b o) 23:=by
 unfold Skt.o4;split
 ·rename_i hk;exact vR0 h hb hN ho.oin.cl.1 (ho.cls hk)
 ·exact(SkS.refl h).le de
theorem o5_ok{b:Int}{N:Nat}{k:Skt}{o:Ob}{e:Bool}(h:SkI b N k)(hb:0<=b)(hN:N<=1000000000)(ho:ObC N o):SkS b N k (k.o5 b e o) (2+23*o.refs.length+23*o.order.length):=by
 have h1:=w_ok h (sB 59);have h2:=h1.trans (cT hb hN (l:=o.refs) h1.inv ho.refs);have h3:=h2.trans (cT hb hN (l:=if e=true then o.order else []) h2.inv fun n hn=>by
  split at hn
  ·exact ho.order n hn
  ·cases hn)
 have e5:(if e=true then o.order else []).length<=o.order.length:=by split<;>simp
 exact(h3.trans (w_ok h3.inv (sB 124))).le (by show 1+_+_+1<=_;omega)
theorem gU1{b:Int}{N:Nat}{k:Skt}{o:Ob}{e:Bool}(h:SkI b N k)(hb:0<=b)(hN:N<=1000000000)(ho:ObC N o):SkS b N k (k.ob b e o) (cO o):=by
 have h1:=gX1 h ho.oin;have h2:=h1.trans (wR1 (l:=o.names) h1.inv);have h3:=h2.trans (gW1 (e:=e) h2.inv hb hN ho);have h4:=h3.trans (gV1 h3.inv hb hN ho);have h5:=h4.trans (o5_ok (e:=e) h4.inv hb hN ho);have h6:=h5.trans (qQ1 h5.inv hb hN ho.keys);exact(h6.trans (qQ1 h6.inv hb hN ho.items)).le (by unfold cO;omega)
theorem cN{f:Nat->Nat}:∀{N:Nat}{L:List Nat},L.Nodup->(∀n∈L,n<N)->(L.map f).sum<=((List.range N).map f).sum
 |0,[],_,_=>Ar _
 |0,x::l,_,h=>absurd (h x Bc) (Nat.not_lt_zero _)
 |N+1,L,hn,h=>by
  have h2:=cN (f:=f) (N:=N) (hn.filter fun n=>decide (n≠N)) fun n hm=>by
   obtain⟨hm,hd⟩:=List.mem_filter.1 hm;have:=h n hm;have:=Ag hd;omega
  have h3:((L.filter fun n=> !decide (n≠N)).map f).sum<=f N:=by
   have h4:(L.filter fun n=> !decide (n≠N)).Nodup:=hn.filter _;have h5:∀n∈(L.filter fun n=> !decide (n≠N)),n=N:=fun n hm=>by simpa using(List.mem_filter.1 hm).2
   generalize (L.filter fun n=> !decide (n≠N))=M at*
   match M,h4,h5 with
   |[],_,_=>exact Aq _
   |[a],_,h5=>rw[h5 a Bc];simp
   |a::c::M,h4,h5=>
    have e1:=h5 a Bc;have e2:=h5 c (Be _ Bc);rw[List.nodup_cons]at h4;exact absurd (by rw[e1,e2];exact Bc) h4.1
  have h6:(L.map f).sum=((L.filter fun n=>decide (n≠N)).map f).sum+((L.filter fun n=> !decide (n≠N)).map f).sum:=by
   clear hn h h2 h3;induction L with
   |nil=>rfl
   |cons x l ih=>
    rw[Eu,Eu,Bw,Cn,ih];by_cases hx:x=N
    ·simp[hx];omega
    ·simp[hx];omega
  rw[Ec,Ad,Es,List.map_singleton,List.sum_singleton,h6];omega
def Skt.base(b:Int)(e:Bool)(h:List Ob)(k:Skt)(m:Nat):Skt:=(List.range m).foldl (fun k i=>k.ob b e (h.getD i ob0)) k
def Skt.run(b:Int)(e:Bool)(h:List Ob):Nat->Nat->Skt->Skt
 |0,_,k=>k
 |n+1,i,k=>if i<k.ord.length then Skt.run b e h n (i+1) (k.ob b e (h.getD (k.ord.getD i 0).toNat ob0))else k
def HpC(h:List Ob):Prop:=∀o∈h,ObC h.length o
def cOs(h:List Ob)(L:List Nat):Nat:=(L.map fun i=>cO (h.getD i ob0)).sum
def cH(h:List Ob):Nat:=cOs h (List.range h.length)
theorem HpC.at{h:List Ob}(hh:HpC h){i:Nat}(hi:i<h.length):ObC h.length (h.getD i ob0):=by
 rw[Af,Ac hi];exact hh _ (Cj _)
theorem xP0(b:Int)(e:Bool)(h:List Ob)(k:Skt)(m:Nat):Skt.base b e h k (m+1)=(Skt.base b e h k m).ob b e (h.getD m ob0):=by
 rw[Skt.base,Ec,List.foldl_append];rfl
theorem kY0{b:Int}{e:Bool}{h:List Ob}{k:Skt}(hk:SkI b h.length k)(hb:0<=b)(hN:h.length<=1000000000)(hh:HpC h):∀{m:Nat},m<=h.length->SkS b h.length k (Skt.base b e h k m) (cOs h (List.range m))
 |0,_=>SkS.refl hk
 |m+1,hm=>by
  have h1:=kY0 (e:=e) hk hb hN hh (m:=m) om;rw[xP0];refine(h1.trans (gU1 h1.inv hb hN (hh.at om))).le ?_;rw[cOs,cOs,Ec,Ad,Es,List.map_singleton,List.sum_singleton];exact Ar _
theorem wG0:∀{l:List Int},l.Nodup->(∀n∈l,0<=n)->(l.map Int.toNat).Nodup
 |[],_,_=>List.nodup_nil
 |x::l,hn,h=>by
  rw[List.nodup_cons]at hn;rw[Bw,List.nodup_cons];refine⟨fun hm=>?_,wG0 hn.2 fun n hm=>h n (Be _ hm)⟩;obtain⟨y,hy,e⟩:=Dc.1 hm;have h1:=h x Bc;have h2:=h y (Be _ hy);exact hn.1 ((show y=x by omega)▸hy)
theorem dQ0{b:Int}{h:List Ob}{k:Skt}{m i:Nat}(hk:SkI b h.length k)(hm:(m:Int)<=b)(hm2:m<=h.length):cOs h (List.range m++(k.ord.take i).map Int.toNat)<=cH h:=by
 refine cN ?_ fun n hn=>?_
 ·rw[List.nodup_append];refine⟨List.nodup_range,wG0 (hk.nd.sublist (List.take_sublist _ _)) fun n hn=>by have:=hk.mem n (Cu hn);omega,fun a ha c hc=>?_⟩;have h1:=Ct.1 ha;obtain⟨y,hy,rfl⟩:=Dc.1 hc;have:=hk.mem y (Cu hy);omega
 ·rcases Av.1 hn with hn|hn
  ·have:=Ct.1 hn;omega
  ·obtain⟨y,hy,rfl⟩:=Dc.1 hn;have:=hk.mem y (Cu hy);omega
structure Rn(b:Int)(e:Bool)(h:List Ob)(m C:Nat)(kf:Skt)where
 i:Nat
 k:Skt
 inv:SkI b h.length k
 le:i<=k.ord.length
 eq:Skt.run b e h (h.length-i) i k=kf
 len:k.out.length<=C+cOs h (List.range m++(k.ord.take i).map Int.toNat)
def Rn.start{b:Int}(e:Bool){h:List Ob}{m C:Nat}(k:Skt)(hk:SkI b h.length k)(hl:k.out.length<=C+cOs h (List.range m)):Rn b e h m C (Skt.run b e h h.length 0 k):=⟨0,k,hk,Aq _,rfl,by simpa using hl⟩
theorem Rn.at{b:Int}{e:Bool}{h:List Ob}{m C:Nat}{kf:Skt}(x:Rn b e h m C kf)(hi:x.i<x.k.ord.length):b<=x.k.ord.getD x.i 0/\x.k.ord.getD x.i 0<(h.length:Int):=by
 rw[Af,Ac hi];exact x.inv.mem _ (Cj _)
def Rn.next{b:Int}{e:Bool}{h:List Ob}{m C:Nat}{kf:Skt}(x:Rn b e h m C kf)(hi:x.i<x.k.ord.length)(hb:0<=b)(hN:h.length<=1000000000)(hh:HpC h):Rn b e h m C kf:=
 have hs:=gU1 (e:=e) x.inv hb hN (hh.at (show(x.k.ord.getD x.i 0).toNat<h.length by have:=x.at hi;omega))
 ⟨x.i+1,x.k.ob b e (h.getD (x.k.ord.getD x.i 0).toNat ob0),hs.inv,by obtain⟨r,hr⟩:=hs.pre;rw[hr,Ae];omega,by
  have hl:=x.inv.len hb;have e1:Skt.run b e h (h.length-x.i) x.i x.k=Skt.run b e h (h.length-(x.i+1)) (x.i+1) (x.k.ob b e (h.getD (x.k.ord.getD x.i 0).toNat ob0)):=by
   rw[show h.length-x.i=(h.length-(x.i+1))+1 by omega,Skt.run,Ab hi]
  exact e1.symm.trans x.eq,by
  obtain⟨r,hr⟩:=hs.pre;have h1:((x.k.ob b e (h.getD (x.k.ord.getD x.i 0).toNat ob0)).ord.take (x.i+1))=x.k.ord.take x.i++[x.k.ord.getD x.i 0]:=by
   rw[hr,Dx om,List.take_add_one,Ac hi,Af,Ac hi];rfl
  rw[h1];have h2:=hs.len;have h3:=x.len;simp only[cOs,Ad,Es,Bw,List.map_nil,Cn,List.sum_nil]at h3⊢;omega⟩
theorem Rn.fin{b:Int}{e:Bool}{h:List Ob}{m C:Nat}{kf:Skt}(x:Rn b e h m C kf)(hi:¬x.i<x.k.ord.length):x.k=kf:=by
 refine Eq.trans ?_ x.eq
 cases h.length-x.i with
 |zero=>rfl
 |succ n=>rw[Skt.run,Aa hi]
theorem Rn.bound{b:Int}{e:Bool}{h:List Ob}{m C:Nat}{kf:Skt}(x:Rn b e h m C kf)(hm:(m:Int)<=b)(hm2:m<=h.length):x.k.out.length<=C+cH h:=At x.len (by have:=dQ0 (i:=x.i) x.inv hm hm2;omega)
noncomputable def tJ (h:List Ob) (b:Nat) (l:List Vl):ByteArray:=⟨(Skt.run b true h h.length 0 (Skt.base b true h (Skt.vs b ⟨[],[]⟩ l) (min b h.length))).out.toArray⟩
open Go.RowKit Go.Shelf
theorem tab_pow{w:World}{s:Sb}(hg:Glb w s):Lib.TabIs Tryz.prog w "internal/strconv.uint64pow10" .u64 Lib.pow10Tab:=by
 obtain⟨G,g1,g2,g3⟩:=hg;have hn:Tryz.prog.globalNamed "internal/strconv.uint64pow10" =some 5:=by kernel_rfl
 have h1:∀i:Nat,i<20->w.cell? ⟨5,i,none⟩=some (.int .u64 (Lib.pow10Tab.getD i 0)):=fun i hi=>(g2 _ _ _ (g1.pow10 i hi)).1;have h2:∀o:Nat,20<=o->w.cell? ⟨5,o,none⟩=none:=fun o ho=>(g3 _ _ (.pow10 o ho)).1;have hl:Lib.pow10Tab.length=20:=Lib.pow10Tab_length;unfold Lib.TabIs World.var?;rw[hn];show(match w.heap[5]? with|some (.cells cs _ _)=>some cs|_=>none)=_;have h0:=h1 0 de
 cases hb:w.heap[5]? with
 |none=>simp[World.cell?,hb]at h0
 |some o=>
  cases o with
  |cells cs t f=>
   show some cs=some _;congr 1;apply Array.ext_getElem?;intro i;rcases Br i 20 with hi|hi
   ·have h3:cs[i]?=some (.int .u64 (Lib.pow10Tab.getD i 0)):=by
     have:=h1 i hi;simpa[World.cell?,hb]using this
    rw[h3,Dv,Bx,Ac om,Af,Ac om];rfl
   ·have h3:cs[i]?=none:=by
     have:=h2 i hi;simpa[World.cell?,hb]using this
    rw[h3,Dv,Bx,Cz om];rfl
  |_=>simp[World.cell?,hb]at h0
theorem Itoa_ok(n:Int)(h0: -9223372036854775808<=n)(h1:n<=9223372036854775807):Fx 196 [.v (.int .i64 n)] (.v (.string (itB n))):=by
 refine tY ⟨_,Tryz.func196,rfl,rfl⟩ fun w s vs hg hv=>?_;rw[cE hv];refine(Any.strconv_Itoa Tryz.laysItoa n h0 h1 w (tab_pow hg)).mono ?_;rintro e w' ⟨rfl,k,os,rfl⟩;exact⟨rfl,Lib.below_grow _ w (Ar _) k os⟩
theorem mR0{w:World}{s:Sb}{G:Nat->Nat->Option Value}(g2:∀b o v,G b o=some v->w.cell? ⟨b,o,none⟩=some v/\s b o){g:Nat}{k:IntKind}{t:List Nat}(h:SliG G g k t):Lib.TabSlice g k t w:=by
 obtain⟨R,o,c,h1,h2⟩:=h;exact⟨R,o,c,(g2 _ _ _ h1).1,fun j hj=>(g2 _ _ _ (h2 j hj)).1⟩
theorem bM0(s:ByteArray)(hs:s.size<=1000000000):Fx 151 [.v (.string s)] (.v (.string (quB s))):=by
 refine tY ⟨_,Tryz.func151,rfl,rfl⟩ fun w s' vs hg hv=>?_;rw[cE hv];obtain⟨G,g1,g2,_⟩:=hg
 have hT:Lib.PrintTabsAt 6 7 8 9 Lib.goPrintTabs w:=
  ⟨mR0 g2 g1.p16,mR0 g2 g1.n16,mR0 g2 g1.p32,mR0 g2 g1.n32,by decide+kernel,by decide+kernel,by decide+kernel⟩
 have hU:Lib.Utf8Tabs 1 2 w:=⟨fun c hc=>(g2 _ _ _ (g1.first c hc)).1,fun i hi=>⟨(g2 _ _ _ (g1.accept i hi).1).1,(g2 _ _ _ (g1.accept i hi).2).1⟩⟩;exact Any.strconv_Quote Tryz.laysQuote kr Lib.goPrintTabs s w om hT hU
variable{md me:Bool}
def skO(md:Bool)(h:List Ob)(b:Int)(k:Skt):List DOwn:=[.box 124 [.sl md 10 h obD ob0,.v (.int .i64 b),.mo 1 k.ord.length,.mo 2 k.out.length],.mrow 3 1 (.map k.ord iD 0),.mrow 5 1 (.map k.out u8D 0)]
theorem vA1{α:Type} [DecidableEq α]:∀(l:List α)(n:α),-1<=ixI l n
 |[],_=>by show(-1:Int)<= -1;omega
 |x::l,n=>by
  have:=vA1 l n;rw[ixI];split
  ·omega
  ·split<;>omega
theorem IndexIm_ok(l:List Int)(n:Int):Fx 167 [.sl md 1 l iD 0,.v (.int .i64 n)] (.v (.int .i64 (ixI l n))):=by
 refine yD zJ Tryz.func167 rfl rfl rfl rfl rfl rfl ?_;intros;refine xN 0 rfl fun hl0=>?_;refine zK 100 ?_;refine zB (zK 200 ?_);refine zP ?_;refine yC (ι:=Nf l n) [0,1,7] [] 250 (fun x=>[(8,.v (.int .i64 x.k))]) (fun _=>[]) (fun x=>l.length-x.k) ⟨0,Aq _,fun j hj=>by omega⟩ ?_;refine⟨⟨yG,yF,rfl,rfl⟩,fun x=>?_⟩;have hk:=x.le;refine zK 300 ?_;refine zB (zZ (fun c2=>?_) (fun c2=>?_))
 ·
  refine zM (zA (zB (zP (zK 400 ?_))));refine zK 500 ?_;refine zZ (fun c4=>?_) (fun c4=>?_)
  ·
   refine zK 600 ?_;refine zL (zR (zO (yQ (zR (zO ?_)))));exact u4 rfl (u10 (x.found c2 c4).symm)
  ·
   refine zM (zN (zA (yM zJ [] 700 ?_)));exact zS (x.next c2 c4) ⟨yG,yF,rfl,rfl⟩ (by show l.length-(x.k+1)<l.length-x.k;omega)
 ·
  refine yE (yA (yB (zY (zA (zK 800 ?_)))));refine zL ?_;exact u4 rfl (u10 (x.none c2).symm)
theorem uA(h:List Ob)(b:Int)(k:Skt)(s:ByteArray)(hl:k.out.length+s.size<=1073741824):FnG Tryz.prog 149 [.bp 0 0,.v (.string s)] (skO md h b k) (.v (.tuple #[])) (skO md h b (k.w s)):=by
 refine uE zJ Tryz.func149 rfl rfl rfl rfl rfl rfl rfl ?_;intros;refine zE zJ [] 100 rfl ?_;repeat(first|refine zH ?_|refine zW (by first|(simp only[MR.len];done)|(simp only[MR.len];omega)|exact Fa) ?_)
 refine zC ?_;exact FinH.normal 3 rfl rfl (u0 _) ⟨⟨rfl,u0 _,rfl,u0 _,rfl,u0 _,rfl,Sub.mo (by rw[(bN0 k s).1]),rfl,trivial⟩,SubO.mp rfl,SubO.mp (by show D.pvss (k.out.map u8D++s.data.toList.map u8D)=D.pvss ((k.out++s.data.toList).map u8D);rw[Ad]),trivial⟩
theorem wB1{P:Program}{E:Pn}{K:DS->Prop}{p:Prop}{r:Out}(hr:r.sat P E K)(hp:p:=by first|exact At (show(itB n).size+1<=22 by omega) (by decide)|exact Fa):(Out.need p r).sat P E K:=⟨hp,hr⟩
theorem kB(h:List Ob)(b:Int)(k:Skt)(n:Int)(h0: -9223372036854775808<=n)(h1:n<=9223372036854775807)(hl:k.out.length+22<=1073741824):FnG Tryz.prog 150 [.bp 0 0,.v (.int .i64 n)] (skO md h b k) (.v (.tuple #[])) (skO md h b (k.n n)):=by
 have hz:=pY0 h0 h1;have hz2:(itB n++sB 32).size<=22:=by rw[Da];show _+1<=_;omega
 refine uE zJ Tryz.func150 rfl rfl rfl rfl rfl rfl rfl ?_;intros;refine zE zJ [1008] 100 rfl ?_;repeat(first|refine zH ?_|refine wB1 ?_)
 refine zQ _ (Itoa_ok n h0 h1) rfl ?_;repeat(first|refine zH ?_|refine wB1 ?_)
 refine yO _ _ (uA h b k (itB n++sB 32) om) rfl ?_;repeat(first|refine zH ?_|refine wB1 ?_)
 refine zC ?_;exact FinH.normal 3 rfl rfl (u0 _) ⟨⟨rfl,u0 _,rfl,u0 _,rfl,u0 _,rfl,u0 _,rfl,trivial⟩,SubO.mp rfl,SubO.mp rfl,trivial⟩
theorem mP(h:List Ob)(b:Int)(k:Skt)(n:Int)(h0: -9223372036854775808<=n)(h1:n<=9223372036854775807)(hl:k.out.length+23<=1073741824)(ho:k.ord.length<=1000000000):FnG Tryz.prog 152 [.bp 0 0,.v (.int .i64 n)] (skO md h b k) (.v (.tuple #[])) (skO md h b (k.see b n)):=by
 have hix:=gZ0 k.ord n;have hix2:=vA1 k.ord n;refine uE zJ Tryz.func152 rfl rfl rfl rfl rfl rfl rfl ?_;intros;refine zB (zK 100 ?_);refine zZ (fun c0=>?_) (fun c0=>?_)
 ·
  refine zB (zE zJ [1012] 200 rfl ?_);refine zF ?_;refine yO _ _ (uA h b k (sB 35) (by show k.out.length+1<=_;omega)) rfl ?_;refine zf (zA ?_);refine yL [0,1] [] 210 [] [(0,.box 124 [.sl md 10 h obD ob0,.v (.int .i64 b),.mo 1 (k.w (sB 35)).ord.length,.mo 2 (k.w (sB 35)).out.length]),(1,.mrow 3 1 (.map (k.w (sB 35)).ord iD 0)),(2,.mrow 5 1 (.map (k.w (sB 35)).out u8D 0))] ?_;refine⟨⟨yG,⟨⟨rfl,u0 _,rfl,u0 _,rfl,Sub.mo (by simp[Skt.w,Skt.n]),rfl,Sub.mo (by simp[Skt.w,Skt.n]),rfl,trivial⟩,SubO.mp rfl,SubO.mp rfl,yF⟩,rfl,rfl⟩,?_⟩;refine zB (zE zJ [1015] 300 rfl ?_);refine zF ?_;refine yO _ _ (kB h b (k.w (sB 35)) n h0 h1 (by rw[(bN0 _ _).1];show k.out.length+1+22<=_;omega)) rfl ?_;refine zf (zA (zL (zO ?_)));rw[show k.see b n=(k.w (sB 35)).n n from Ab c0];exact u11 3 rfl rfl (u0 _) ⟨⟨rfl,u0 _,rfl,u0 _,rfl,u0 _,rfl,u0 _,rfl,trivial⟩,SubO.mp rfl,SubO.mp rfl,trivial⟩
 ·
  refine zM (zA ?_);refine zB (zE zJ [] 400 rfl ?_);refine zF ?_;refine yZ _ (IndexIm_ok k.ord n) rfl rfl ?_;refine zF ?_;refine zC (zA (zB (zK 500 ?_)));refine zZ (fun c4=>?_) (fun c4=>?_)
  ·
   refine zK 600 ?_;refine zE zJ [] 700 rfl ?_;repeat(first|refine zH ?_|refine zW (by first|rfl|(simp only[MR.len,An,Am,Au];omega)|exact Fa) ?_)
   refine zC (zA ?_);refine yL [0,4] [] 710 [] [(0,.box 124 [.sl md 10 h obD ob0,.v (.int .i64 b),.mo 1 ((⟨k.ord++[n],k.out⟩:Skt)).ord.length,.mo 2 ((⟨k.ord++[n],k.out⟩:Skt)).out.length]),(1,.mrow 3 1 (.map ((⟨k.ord++[n],k.out⟩:Skt)).ord iD 0)),(2,.mrow 5 1 (.map ((⟨k.ord++[n],k.out⟩:Skt)).out u8D 0))] ?_;refine⟨⟨yG,⟨⟨rfl,u0 _,rfl,u0 _,rfl,Sub.mo (by simp),rfl,Sub.mo (by simp),rfl,trivial⟩,SubO.mp (by show D.pvss (k.ord.map iD++[iD n])=D.pvss ((k.ord++[n]).map iD);rw[Ad];rfl),SubO.mp rfl,yF⟩,rfl,rfl⟩,?_⟩;refine zB (zE zJ [1040] 800 rfl ?_);refine zF ?_;refine yO _ _ (uA h b (⟨k.ord++[n],k.out⟩:Skt) (sB 64) (by show k.out.length+1<=_;omega)) rfl ?_;refine zf (zA ?_);refine yL [0,4] [] 810 [] [(0,.box 124 [.sl md 10 h obD ob0,.v (.int .i64 b),.mo 1 ((⟨k.ord++[n],k.out⟩:Skt).w (sB 64)).ord.length,.mo 2 ((⟨k.ord++[n],k.out⟩:Skt).w (sB 64)).out.length]),(1,.mrow 3 1 (.map ((⟨k.ord++[n],k.out⟩:Skt).w (sB 64)).ord iD 0)),(2,.mrow 5 1 (.map ((⟨k.ord++[n],k.out⟩:Skt).w (sB 64)).out u8D 0))] ?_;refine⟨⟨yG,⟨⟨rfl,u0 _,rfl,u0 _,rfl,Sub.mo (by simp[Skt.w,Skt.n]),rfl,Sub.mo (by simp[Skt.w,Skt.n]),rfl,trivial⟩,SubO.mp rfl,SubO.mp rfl,yF⟩,rfl,rfl⟩,?_⟩;refine zE zJ [1043] 900 rfl ?_;refine zF ?_;refine yO _ _ (kB h b ((⟨k.ord++[n],k.out⟩:Skt).w (sB 64)) (k.ord.length:Nat) om om (by rw[(bN0 _ _).1];show k.out.length+1+22<=_;omega)) rfl ?_;refine zf ?_;rw[show k.see b n=((⟨k.ord++[n],k.out⟩:Skt).w (sB 64)).n (k.ord.length:Nat)from(Aa (Int.not_lt.2 c0)).trans (Ab c4)];exact FinH.normal 3 rfl rfl (u0 _) ⟨⟨rfl,u0 _,rfl,u0 _,rfl,u0 _,rfl,u0 _,rfl,trivial⟩,SubO.mp rfl,SubO.mp rfl,trivial⟩
  ·
   refine zM (zA ?_);refine zB (zE zJ [1040] 800 rfl ?_);refine zF ?_;refine yO _ _ (uA h b k (sB 64) (by show k.out.length+1<=_;omega)) rfl ?_;refine zf (zA ?_);refine yL [0,4] [] 810 [] [(0,.box 124 [.sl md 10 h obD ob0,.v (.int .i64 b),.mo 1 (k.w (sB 64)).ord.length,.mo 2 (k.w (sB 64)).out.length]),(1,.mrow 3 1 (.map (k.w (sB 64)).ord iD 0)),(2,.mrow 5 1 (.map (k.w (sB 64)).out u8D 0))] ?_;refine⟨⟨yG,⟨⟨rfl,u0 _,rfl,u0 _,rfl,Sub.mo (by simp[Skt.w,Skt.n]),rfl,Sub.mo (by simp[Skt.w,Skt.n]),rfl,trivial⟩,SubO.mp rfl,SubO.mp rfl,yF⟩,rfl,rfl⟩,?_⟩;refine zE zJ [1043] 900 rfl ?_;refine zF ?_;refine yO _ _ (kB h b (k.w (sB 64)) (ixI k.ord n) om om (by rw[(bN0 _ _).1];show k.out.length+1+22<=_;omega)) rfl ?_;refine zf ?_;rw[show k.see b n=(k.w (sB 64)).n (ixI k.ord n)from(Aa (Int.not_lt.2 c0)).trans (Aa (Int.not_lt.2 c4))];exact FinH.normal 3 rfl rfl (u0 _) ⟨⟨rfl,u0 _,rfl,u0 _,rfl,u0 _,rfl,u0 _,rfl,trivial⟩,SubO.mp rfl,SubO.mp rfl,trivial⟩
variable{md me:Bool}
theorem Halve3_ok(a:Nat)(ha:(dig a).length<=10000000):Fx 205 [qK a,.v (.int .i64 16)] (.tup [qK (a/16),.v (.int .i64 ((a%16:Nat):Int))]):=kO a 16 de ha
variable{md me:Bool}
structure Fg(a:Nat)where
 y:Nat
 o:List Nat
 eq:o++hxL y=hxL a
 le:y<=a
def Fg.next{a:Nat}(x:Fg a)(h:x.y≠0):Fg a:=⟨x.y/16,x.o++[x.y%16],by rw[Cg,List.singleton_append,<-uD0 h];exact x.eq,At (Er _ _) x.le⟩
theorem dig_ne{y:Nat}(h:0<(dig y).length):y≠0:=by
 rintro rfl;exact absurd h (by decide+kernel)
theorem dig_eq0{y:Nat}(h:¬0<(dig y).length):y=0:=by
 have e:dig y=[]:=Bm om;have:=xE y;rw[e]at this;exact this.symm
theorem Fg.len{a:Nat}(x:Fg a):x.o.length<=(hxL a).length:=by rw[<-x.eq,Ae];omega
theorem vD1(a:Nat):(hxL a).length<=4*(dig a).length:=kC0 (by
 have h:=V_lt (bY a);rw[xE]at h;rw[show(16:Nat)^(4*(dig a).length)=65536^(dig a).length by rw[Nat.pow_mul]];exact h)
theorem mZ0{l:List Nat}{k:Nat}(h:0<k)(hk:k<=l.length):(l.drop (k-1)).reverse.map nD=(l.drop k).reverse.map nD++[nD (l.getD (k-1) 0)]:=by
 rw[Cd (show k-1<l.length by omega),List.reverse_cons,Ad,show k-1+1=k by omega,Af,Ac (show k-1<l.length by omega)];rfl
theorem xZ1{P:Program}{E:Pn}{K:DS->Prop}{p:Prop}{r:Out}(hr:r.sat P E K)(hp:p:=by first|rfl|(simp only[An,Ey,Bk,Am,Au];omega)|exact⟨by omega,by rw[hkz];omega⟩|exact Fa):(Out.need p r).sat P E K:=⟨hp,hr⟩
theorem Figures3_ok(a:Nat)(ha:(dig a).length<=10000000):FnO Tryz.prog 220 [qK a,.v (.int .i64 16)] 3 1 ((hxL a).reverse.map nD):=by
 have hxd:=vD1 a;refine bV Tryz.func220 rfl rfl rfl rfl rfl rfl ?_;intros;refine zK 100 ?_;refine zK 200 ?_;refine yY 5 3 1 rfl ?_;refine zB (zP ?_);refine yC (ι:=Fg a) [1] [] 250 (fun x=>[(0,qK x.y),(5,.own 200 1 (x.o.map nD))]) (fun x=>[(200,.row 3 1 (x.o.map nD).length)]) (fun x=>x.y) ⟨a,[],rfl,Ar _⟩ ?_;refine⟨⟨yG,yF,rfl,rfl⟩,fun x=>?_⟩;have hol:=x.len;refine zB (zK 300 ?_);refine zU rfl (fun c2=>?_) (fun c2=>?_)
 ·have hne:x.y≠0:=dig_ne (by simpa using c2);refine zM (zA (zP (zK 400 ?_)));refine zB (zE zJ [] 500 rfl ?_);refine zF ?_;refine zQ _ (Halve3_ok x.y (by have:=yT x.le;omega)) rfl ?_;refine zf (zA ?_);refine zE zJ [] 600 rfl ?_;repeat(first|refine zH ?_|refine xZ1 ?_)
  refine zC (zN ?_);exact zS (x.next hne) ⟨⟨u0 _,Sub.own (by show _=(x.o++[x.y%16]).map nD;rw[Ad];rfl),yG⟩,⟨⟨rfl,rfl,by show _=((x.o++[x.y%16]).map nD).length;rw[Ad];rfl⟩,yF⟩,rfl,rfl⟩ (by show x.y/16<x.y;omega)
 ·have h0:x.y=0:=dig_eq0 (by simpa using c2);have hoe:x.o=hxL a:=by have:=x.eq;rwa[h0,pT,Cr]at this
  refine yE (yA (yB (zY (zA (zK 700 ?_)))));refine yY 7 3 1 rfl ?_;refine zB ?_;refine zB (zE zJ [] 800 rfl ?_);repeat(first|refine zH ?_|refine zW (by first|exact ini (by rw[An];omega) (by rw[An];omega)|exact Fa) ?_)
  refine zC (zA (zP ?_));refine yC (ι:={k:Nat//k<=x.o.length}) [] [] 850 (fun z=>[(8,.v (.int .i64 ((z.1:Int)-1))),(5,.sl false 1 x.o nD 0),(7,.own 700 1 ((x.o.drop z.1).reverse.map nD))]) (fun z=>[(700,.row 3 1 ((x.o.drop z.1).reverse.map nD).length)]) (fun z=>z.1) ⟨x.o.length,Ar _⟩ ?_;refine⟨⟨⟨u21 (by simp),u5 rfl,Sub.own (by rw[List.drop_length];rfl),yG⟩,⟨⟨rfl,rfl,by rw[List.drop_length];rfl⟩,yF⟩,rfl,rfl⟩,fun z=>?_⟩;have hz:z.1<=x.o.length:=z.2;have hkz:((z.1:Int)-1).toNat=z.1-1:=by omega
  refine zB (zK 900 ?_);refine zZ (fun c8=>?_) (fun c8=>?_)
  ·
   refine zM (zA (zB (zP ?_)));refine zE zJ [] 1100 rfl ?_;repeat(first|refine zH ?_|refine xZ1 ?_)
   refine zC (zN (zA (yM zJ [] 1200 ?_)));exact zS ⟨z.1-1,by omega⟩ ⟨⟨u21 (by show(z.1:Int)-1-1=((z.1-1:Nat):Int)-1;omega),u0 _,Sub.own (by rw[mZ0 om hz,hkz];rfl),yG⟩,⟨⟨rfl,rfl,by rw[mZ0 om hz];simp only[Ae];rfl⟩,yF⟩,rfl,rfl⟩ (by show z.1-1<z.1;omega)
  ·
   refine yE (yA (yB (zY (zA (zK 1200 ?_)))));refine zL ?_;have hz0:z.1=0:=by omega
   exact FinO.ret rfl rfl rfl (by rw[hz0,Do,hoe])
end Go.Proofs.YtammfbdgjnkolaaGreatDoor
