/-Part 24 of the proof. -/
import Derived.Test.YtammfbdgjnkolaaGreatDoorM19
namespace Go.Proofs.YtammfbdgjnkolaaGreatDoor
open Go.RowKit
variable{md me:Bool}
structure On3(a:Nat)where
 k:Nat
 o:List Bool
 eq:VB o=V ((dig a).take k)
 lo:o.length=16*k
 le:k<=(dig a).length
structure Oi3(a:Nat)(x:On3 a)where
 m:Nat
 y:Nat
 o:List Bool
 eq:VB o+y*2^(16*x.k+m)=V ((dig a).take (x.k+1))
 lo:o.length=16*x.k+m
 bd:y*2^m<=65535
 le:m<=16
def Oi3.start{a:Nat}(x:On3 a):Oi3 a x:=⟨0,(dig a).getD x.k 0,x.o,by rw[jO,x.eq,Ck,Nat.pow_mul,Aw],by rw[x.lo];rfl,by have:=uF a x.k;omega,by omega⟩
theorem half_bd{x m:Nat}(h:x*2^m<=65535):x/2*2^(m+1)<=65535:=by
 have h1:x/2*2^(m+1)<=x*2^m:=by
  rw[By,Aw (2^m) 2,<-Bp];exact Bh _ om
 omega
def Oi3.next{a:Nat}{x:On3 a}(z:Oi3 a x)(h:z.m<16):Oi3 a x:=⟨z.m+1,z.y/2,z.o++[z.y%2==1],wD0 z.eq z.lo,by rw[Ae,z.lo];rfl,half_bd z.bd,h⟩
theorem Oi3.y_le{a:Nat}{x:On3 a}(z:Oi3 a x):z.y<=65535:=At (Nat.le_mul_of_pos_right _ (Nat.pow_pos de)) z.bd
def Oi3.fin{a:Nat}{x:On3 a}(z:Oi3 a x)(h:16<=z.m)(hk:x.k<(dig a).length):On3 a:=⟨x.k+1,z.o,by
 have h1:=z.eq;have h2:=z.bd;have hm:z.m=16:=by have:=z.le;omega
 rw[hm]at h2;have h3:z.y=0:=by omega
 rw[h3,Nat.zero_mul,Ck]at h1;exact h1,by have:=z.lo;have:=z.le;omega,hk⟩
structure TrmB(l:List Bool)where
 r:List Bool
 eq:VB r=VB l
 le:r.length<=l.length
theorem lastB{r:List Bool}(h:0<r.length)(h0:r.getD (r.length-1) false=false):VB (r.take (r.length-1))=VB r:=by
 have h1:=VB_take_succ (l:=r) (m:=r.length-1) om;have h2:r[r.length-1]=false:=by rw[<-h0,Af,Ac (by omega)];rfl
 rw[h2,show r.length-1+1=r.length by omega,Ai (Ar _)]at h1;rw[h1];exact(Ck _).symm
def TrmB.next{l:List Bool}(x:TrmB l)(h:0<x.r.length)(h0:x.r.getD (x.r.length-1) false=false):TrmB l:=⟨x.r.take (x.r.length-1),by rw[lastB h h0,x.eq],by have:=x.le;simp;omega⟩
theorem TrmB.fin{l:List Bool}(x:TrmB l)(h:0<x.r.length->x.r.getD (x.r.length-1) false=true):x.r=wC (VB l):=by
 rw[<-x.eq];refine(bitsN_VB fun hne=>?_).symm;have hp:0<x.r.length:=Db.2 hne;rw[Em,<-h hp,Af,Ac om];rfl
theorem tV0(r:List Bool):r.getD ((r.length:Int)-1).toNat false=r.getD (r.length-1) false:=by congr 1;omega
theorem bitD{y:Nat}:decide (Int.tmod (y:Int) 2=1)=(y%2==1):=by
 rw[Int.tmod_eq_emod_of_nonneg om,Bool.eq_iff_iff,Ap,beq_iff_eq];omega
theorem wX1{y:Nat}:Int.tdiv (y:Int) 2=((y/2:Nat):Int):=by rw[Int.tdiv_eq_ediv_of_nonneg (by omega)];rfl
theorem bD_snoc{l:List Bool}{b c:Bool}(h:c=b):l.map bD++[[.v (.bool c)]]=(l++[b]).map bD:=by rw[Ad,h];rfl
theorem Ones3_ok(a:Nat)(ha:(dig a).length<=10000000):Fx 218 [qK a] (.sl false 1 (wC a) bD false):=by
 refine yD zJ Tryz.func218 rfl rfl rfl rfl rfl rfl ?_;intros;refine zK 100 ?_;refine zK 200 ?_;refine yY 3 4 1 rfl ?_;refine zB (zK 300 ?_);refine zP ?_;refine yC (ι:=On3 a) [0] [] 350 (fun x=>[(4,.v (.int .i64 (x.k:Nat))),(3,.own 200 1 (x.o.map bD))]) (fun x=>[(200,.row 4 1 (x.o.map bD).length)]) (fun x=>(dig a).length-x.k) ⟨0,[],rfl,rfl,Aq _⟩ ?_;refine⟨⟨yG,yF,rfl,rfl⟩,fun x=>?_⟩;have hk:=x.le;have hk2:=x.lo;refine zB (zK 400 ?_);refine zZ (fun c3=>?_) (fun c3=>?_)
 ·
  refine zM (zA (zB (zP (zK 600 ?_))));refine zK 700 ?_;refine zP ?_;refine yC (ι:=Oi3 a x) [0,4] [] 750 (fun z=>[(6,.v (.int .i64 (z.m:Nat))),(5,.v (.int .i64 (z.y:Nat))),(3,.own 200 1 (z.o.map bD))]) (fun z=>[(200,.row 4 1 (z.o.map bD).length)]) (fun z=>16-z.m) (Oi3.start x) ?_;refine⟨⟨yG,yF,rfl,rfl⟩,fun z=>?_⟩;have hz:=z.le;have hz2:=z.lo;have hz3:=z.y_le;refine zB (zK 800 ?_);refine zZ (fun c7=>?_) (fun c7=>?_)
  ·
   refine zM (zA (zB (zP ?_)));refine zB (zE zJ [] 1000 rfl ?_);repeat(first|refine zH ?_|refine zW (by first|(refine⟨?_,?_⟩<;>(simp only[An,Am,Au];omega))|(simp only[An,Am,Au];omega)|exact Fa) ?_)
   refine zC (zA ?_);refine zE zJ [] 1100 rfl ?_;repeat(first|refine zH ?_|refine zW (by first|exact⟨by decide,by rw[wX1];exact ini om om⟩|(rw[wX1];exact ini om om)|exact Fa) ?_)
   refine zC (zN (zA (yM zJ [] 1200 ?_)));exact zS (z.next (by omega)) ⟨(by repeat(first|exact u21 (by show(z.m:Int)+1=((z.m+1:Nat):Int);omega)|exact u21 wX1|exact Sub.own (bD_snoc bitD)|refine⟨?_,?_⟩|exact lx)),(by repeat(first|exact trivial|exact u15 rfl|exact⟨rfl,rfl,by show _=(List.map bD (z.o++_)).length;simp⟩|refine⟨?_,?_⟩)),rfl,rfl⟩ (by show 16-(z.m+1)<16-z.m;omega)
  ·
   refine yE (yA (yB (zY (zN (zA (yM zJ [] 900 ?_))))));exact zS (z.fin (by omega) (by omega)) ⟨(by repeat(first|exact u21 (by show(x.k:Int)+1=((x.k+1:Nat):Int);omega)|refine⟨?_,?_⟩|exact lx)),yF,rfl,rfl⟩ (by show(dig a).length-(x.k+1)<(dig a).length-x.k;omega)
 ·
  refine yE (yA (yB (zY (zA (zB (zP ?_))))));refine yC (ι:=TrmB x.o) [] [] 450 (fun t=>[(3,.sl false 1 t.r bD false)]) (fun _=>[]) (fun t=>t.r.length) ⟨x.o,rfl,Ar _⟩ ?_;refine⟨⟨⟨u5 rfl,yG⟩,yF,rfl,rfl⟩,fun t=>?_⟩;have ht:=t.le;refine zB (zK 1200 ?_);refine zZ (fun c11=>?_) (fun c11=>?_)
  ·
   refine zM (zA (zP (yM zJ [] 1300 ?_)));refine zN ?_;have h9:=c11.2;rw[tV0]at h9;exact zS (t.next (by omega) (by simpa using h9)) ⟨(by repeat(first|exact Sub.of_eq (by rw[tX0];rfl)|refine⟨?_,?_⟩|exact lx)),yF,rfl,rfl⟩ (by show(t.r.take (t.r.length-1)).length<t.r.length;rw[As];omega)
  ·
   refine yE (yA (yB (zY (zA (zK 1400 ?_)))));refine zL ?_;have e:t.r=wC (VB x.o):=t.fin (fun hp=>by rw[tV0]at c11;simp[hp]at c11;simpa using c11);exact u4 rfl (u9 (by rw[e,x.eq,Ai om,xE]))
structure Ti3(a b:Nat)where
 i:Nat
 o:List Nat
 eq:V o=V ((dig a).take i)*b
 lo:o.length=(dig a).length+(dig b).length+1
 dg:Dg o
 le:i<=(dig a).length
def Ti3.start(a b:Nat):Ti3 a b:=⟨0,List.replicate ((dig a).length+(dig b).length+1) 0,by rw[V_zeros,List.take_zero,tA0,Nat.zero_mul],by simp,Dg_zeros _,Aq _⟩
structure Tj3(a b i:Nat)where
 k:Nat
 c:Nat
 o:List Nat
 eq:V o+c*65536^(i+k)=V ((dig a).take i)*b+(dig a).getD i 0*65536^i*V ((dig b).take k)
 lo:o.length=(dig a).length+(dig b).length+1
 dg:Dg o
 hc:c<65536
 le:k<=(dig b).length+1
def Tj3.start{a b:Nat}(x:Ti3 a b):Tj3 a b x.i:=⟨0,0,x.o,by simp[tA0,x.eq],x.lo,x.dg,by decide,Aq _⟩
def Tj3.s{a b i:Nat}(y:Tj3 a b i):Nat:=y.o.getD (i+y.k) 0+y.c+(dig a).getD i 0*(dig b).getD y.k 0
theorem kR1{l:List Nat}(h:Dg l)(i:Nat):l.getD i 0<65536:=by
 rcases Br i l.length with h1|h1
 ·rw[vM h1];exact h.at h1
 ·rw[wB h1];omega
theorem kA1{x y:Nat}(hx:x<65536)(hy:y<65536):x*y<=4294836225:=Nat.mul_le_mul (show x<=65535 by omega) (show y<=65535 by omega)
theorem Tj3.s_lt{a b i:Nat}(y:Tj3 a b i):y.s<4294967296:=by
 have h1:=kR1 y.dg (i+y.k);have h2:=y.hc;have h3:=kA1 (uF a i) (uF b y.k);unfold Tj3.s;omega
theorem Tj3.inn{a b i:Nat}(y:Tj3 a b i)(hi:i<(dig a).length)(h:y.k<(dig b).length\/0<y.c):y.k<=(dig b).length:=by
 rcases h with h|h
 ·omega
 ·rcases Br (dig b).length y.k with h1|h1
  ·have h2:=y.eq;rw[Ai (Dn h1)]at h2;exact times_in (bY a) (bY b) hi h (by rw[h2,xE,vM hi])
  ·exact h1
def Tj3.next{a b i:Nat}(y:Tj3 a b i)(hi:i<(dig a).length)(h:y.k<(dig b).length\/0<y.c):Tj3 a b i:=
 ⟨y.k+1,y.s/65536,y.o.set (i+y.k) (y.s%65536),times_step y.eq (by have:=y.inn hi h;rw[y.lo];omega) (by unfold Tj3.s;rw[vM (l:=y.o) (by have:=y.inn hi h;rw[y.lo];omega)]),by rw[Bu,y.lo],y.dg.set _ (Cx _ de),by have:=y.s_lt;omega,by have:=y.inn hi h;omega⟩
def Tj3.fin{a b:Nat}{x:Ti3 a b}(y:Tj3 a b x.i)(hi:x.i<(dig a).length)(h1:(dig b).length<=y.k)(h2:y.c=0):Ti3 a b:=⟨x.i+1,y.o,by
 have h3:=y.eq;rw[Ai h1,h2,Nat.zero_mul,Ck,xE,vM hi,times_row hi]at h3;exact h3,y.lo,y.dg,hi⟩
theorem zrowsN(n:Nat):(MR.map (List.replicate n ()) (fun _=>litS [.int .i64 0]) ()).rows=(MR.map (List.replicate n 0) nD 0).rows:=by
 simp only[MR.rows,List.map_replicate];rfl
theorem vQ0(o:List Nat)(j v:Nat):(MR.upd (.map o nD 0) j (nD v)).rows=(MR.map (o.set j v) nD 0).rows:=by
 simp only[MR.rows,List.map_set]
theorem qU1{P:Program}{E:Pn}{K:DS->Prop}{p:Prop}{r:Out}(hr:r.sat P E K)(hp:p:=by first|exact⟨hm2,by rw[<-hm2];omega⟩|exact⟨hm2,by omega⟩|exact⟨hm,by rw[<-hm];omega⟩|exact⟨hm,by omega⟩|(simp only[hj,Ak];exact ini om om)|(simp only[hj,Ak];constructor<;>omega)|exact Fa):(Out.need p r).sat P E K:=⟨hp,hr⟩
theorem gD1{P:Program}{E:Pn}{K:DS->Prop}{p:Prop}{r:Out}(hr:r.sat P E K)(hp:p:=by first|exact⟨by decide,qR1 (by(try simp only[hj,Ak]);omega) (by(try simp only[hj,Ak]);omega)⟩|exact qR1 (by(try simp only[hj,Ak]);omega) (by(try simp only[hj,Ak]);omega)|exact Fa):(Out.need p r).sat P E K:=⟨hp,hr⟩
theorem Times3_ok(a b:Nat)(ha:(dig a).length<=1000000)(hb:(dig b).length<=1000000):Fx 143 [qK a,qK b] (qK (a*b)):=by
 refine yD zJ Tryz.func143 rfl rfl rfl rfl rfl rfl ?_;intros;refine zK 100 ?_;refine ev_R zJ [1016] 200 ?_;refine yL [0,1] [] 210 [(5,.mo 106 ((dig a).length+(dig b).length+1))] [(106,.mrow 3 1 (.map (List.replicate ((dig a).length+(dig b).length+1) 0) nD 0))] ?_;refine⟨⟨⟨Sub.mo om,yG⟩,⟨SubO.mr (by rw[zrowsN];congr 3),yF⟩,rfl,rfl⟩,?_⟩;refine zB (zK 300 ?_);refine zP ?_;refine yC (ι:=Ti3 a b) [0,1,5] [] 350 (fun x=>[(6,.v (.int .i64 (x.i:Nat)))]) (fun x=>[(106,.mrow 3 1 (.map x.o nD 0))]) (fun x=>(dig a).length-x.i) (Ti3.start _ _) ?_;refine⟨⟨yG,yF,rfl,rfl⟩,fun x=>?_⟩;have hk:=x.le;have hlo:=x.lo;have hm:((dig a).length+(dig b).length+1)=(MR.map x.o nD 0).len:=by rw[MR.len,hlo]
 refine zB (zK 400 ?_);refine zZ (fun c3=>?_) (fun c3=>?_)
 ·
  refine zM (zA (zB (zP (zK 600 ?_))));refine zK 700 ?_;refine zP ?_;refine yC (ι:=Tj3 a b x.i) [0,1,5,6] [] 750 (fun y=>[(8,.v (.int .i64 (y.k:Nat))),(7,.v (.int .i64 (y.c:Nat)))]) (fun y=>[(106,.mrow 3 1 (.map y.o nD 0))]) (fun y=>(dig b).length+2-y.k) (Tj3.start x) ?_;refine⟨⟨yG,yF,rfl,rfl⟩,fun y=>?_⟩;have hky:=y.le;have hly:=y.lo;have hm2:((dig a).length+(dig b).length+1)=(MR.map y.o nD 0).len:=by rw[MR.len,hly]
  have hj:((x.i:Int)+(y.k:Int)).toNat=x.i+y.k:=by omega
  have hyc:=y.hc;have hyo:=kR1 y.dg (x.i+y.k);have hym:=kA1 (uF a x.i) (uF b y.k);have hya:=uF a x.i;have hyb:=uF b y.k;refine zB (zK 800 ?_);refine zZ (fun c7=>?_) (fun c7=>?_)
  ·
   refine zM (zA (zB (zP ?_)));have hcc:y.k<(dig b).length\/0<y.c:=by omega
   have hin:=y.inn c3 hcc;refine zB (zE zJ [] 1000 rfl ?_);repeat(first|refine zH ?_|refine qU1 ?_)
   refine zC (zA (zB (zK 1100 ?_)));refine zZ (fun c10=>?_) (fun c10=>?_)
   ·
    refine zX zJ [] [[],[],[],[1,2],[1,2,3],[],[],[5,6],[5,6,7],[1,2,3,4,5,6,7,8],(rgN 10),(rgN 11)] 1200 yP kr rfl ?_;repeat(first|refine zH ?_|refine qU1 ?_)
    refine zC (zA ?_);refine zB (zE zJ [] 1300 rfl ?_);repeat(first|refine zH ?_|refine qU1 ?_)
    refine zC (zA ?_);refine zE zJ [] 1400 rfl ?_;repeat(first|refine zH ?_|refine gD1 ?_)
    refine zC (zN (zA (yM zJ [] 1500 ?_)));have hcc:y.k<(dig b).length\/0<y.c:=by omega
    have hjn:x.i+y.k<(dig a).length+(dig b).length+1:=by have:=y.inn c3 hcc;omega
    exact zS (y.next c3 hcc) ⟨(by repeat(first|exact u21 (by show(y.k:Int)+1=((y.k+1:Nat):Int);omega)|exact u21 (td_n (by show _=((y.o.getD (x.i+y.k) 0+y.c+(dig a).getD x.i 0*(dig b).getD y.k 0:Nat):Int);(try simp only[hj,Ak]);push_cast;omega))|refine⟨?_,?_⟩|exact lx)),⟨SubO.mr (by(try simp only[hj]);rw[tm_n (by show _=((y.o.getD (x.i+y.k) 0+y.c+(dig a).getD x.i 0*(dig b).getD y.k 0:Nat):Int);(try simp only[hj,Ak]);push_cast;omega)];exact vQ0 _ _ _),yF⟩,rfl,rfl⟩ (by show(dig b).length+2-(y.k+1)<(dig b).length+2-y.k;omega)
   ·
    refine zM (zA ?_);refine zB (zE zJ [] 1300 rfl ?_);repeat(first|refine zH ?_|refine qU1 ?_)
    refine zC (zA ?_);refine zE zJ [] 1400 rfl ?_;repeat(first|refine zH ?_|refine gD1 ?_)
    refine zC (zN (zA (yM zJ [] 1500 ?_)));have hcc:y.k<(dig b).length\/0<y.c:=by omega
    have hjn:x.i+y.k<(dig a).length+(dig b).length+1:=by have:=y.inn c3 hcc;omega
    exact zS (y.next c3 hcc) ⟨(by repeat(first|exact u21 (by show(y.k:Int)+1=((y.k+1:Nat):Int);omega)|exact u21 (td_n (by show _=((y.o.getD (x.i+y.k) 0+y.c+(dig a).getD x.i 0*(dig b).getD y.k 0:Nat):Int);rw[wB (l:=dig b) om,Nat.mul_zero,Ck];(try simp only[hj,Ak]);push_cast;rfl))|refine⟨?_,?_⟩|exact lx)),⟨SubO.mr (by(try simp only[hj]);rw[tm_n (by show _=((y.o.getD (x.i+y.k) 0+y.c+(dig a).getD x.i 0*(dig b).getD y.k 0:Nat):Int);rw[wB (l:=dig b) om,Nat.mul_zero,Ck];(try simp only[hj,Ak]);push_cast;rfl)];exact vQ0 _ _ _),yF⟩,rfl,rfl⟩ (by show(dig b).length+2-(y.k+1)<(dig b).length+2-y.k;omega)
  ·
   refine yE (yA (yB (zY (zN (zA (yM zJ [] 900 ?_))))));exact zS (y.fin c3 (by omega) (by omega)) ⟨(by repeat(first|exact u21 (by show(x.i:Int)+1=((x.i+1:Nat):Int);omega)|refine⟨?_,?_⟩|exact lx)),yF,rfl,rfl⟩ (by show(dig a).length-(x.i+1)<(dig a).length-x.i;omega)
 ·
  refine yE (yA (yB (zY (zA ?_))));refine qT 106 rfl (by repeat(first|exact trivial|exact hm|refine⟨?_,?_⟩)) (by repeat(first|exact trivial|refine⟨?_,?_⟩)) ?_;refine zB (zE zJ [] 1500 rfl ?_);refine zF ?_;refine zQ _ ((xA x.o x.dg om).args ⟨SubP.ownSl rfl,trivial⟩) rfl ?_;refine zf (zA (zL ?_));have e:=x.eq;rw[Ai om,xE]at e;exact u4 rfl (u9 (by rw[e]))
structure Dv3(a b:Nat)where
 i:Nat
 q:List Bool
 R:Nat
 eq:VB ((wC a).drop i)=VB q*b+R
 lo:i+q.length=(wC a).length
 lt:R<b
def Dv3.start{b:Nat}(a:Nat)(h:0<b):Dv3 a b:=⟨(wC a).length,[],0,by rw[Bd (Ar _)];simp[VB],rfl,h⟩
def Dv3.o{a b:Nat}(x:Dv3 a b):List Bool:=List.replicate x.i false++x.q
theorem Dv3.o_len{a b:Nat}(x:Dv3 a b):x.o.length=(wC a).length:=by unfold Dv3.o;rw[Ae,List.length_replicate,x.lo]
def Dv3.r{a b:Nat}(x:Dv3 a b):Nat:=2*x.R+((wC a).getD (x.i-1) false).toNat
theorem dv3_step{B Q b R R' t bit Z:Nat}(h:Z=Q*b+R)(hR:R'+t*b=2*R+bit):bit+2*Z=(t+2*Q)*b+R':=by
 rw[h,Bo,Bv,Bp 2 Q b];omega
def Dv3.next{a b:Nat}(x:Dv3 a b)(h:0<x.i)(t:Bool)(R':Nat)(hR:R'+t.toNat*b=x.r)(hl:R'<b):Dv3 a b:=⟨x.i-1,t::x.q,R',by
 have h1:=x.lo;have h2:x.i-1<(wC a).length:=by omega
 rw[Cd h2,show x.i-1+1=x.i by omega,xF,xF];refine dv3_step (B:=0) x.eq ?_;rw[hR];unfold Dv3.r;rw[Af,Ac h2];rfl,by have:=x.lo;rw[Am];omega,hl⟩
theorem pA0{q:List Bool}{i:Nat}(h:0<i):List.replicate (i-1) false++(false::q)=List.replicate i false++q:=by
 obtain⟨j,rfl⟩:∃j,i=j+1:=⟨i-1,by omega⟩;rw[Nat.add_sub_cancel,List.replicate_succ',Cg];rfl
theorem rep_set{q:List Bool}{i:Nat}(h:0<i):(List.replicate i false++q).set (i-1) true=List.replicate (i-1) false++(true::q):=by
 rw[<-pA0 h,List.set_append_right _ _ (by simp),List.length_replicate,Nat.sub_self,List.set_cons_zero]
theorem bitsN_le(a:Nat):(wC a).length<=16*(dig a).length:=bitsN_length_le (by rw[Nat.pow_mul];exact pX a)
theorem yR1{r:Nat}(n:Nat)(h:(dig r).length<=n){t:Nat}(ht:t<=1):(dig (2*r+t)).length<=n+1:=by
 refine qB ?_;have h1:=pX r;have h2:65536^(dig r).length<=65536^n:=Bb de h;rw[By];omega
theorem kV0(x y:Nat):0<=cmpN x y↔y<=x:=by
 unfold cmpN;split
 ·constructor
  ·intro h;exact absurd h de
  ·intro h;omega
 ·constructor
  ·intro _;omega
  ·intro _;split<;>decide
theorem Sub.nil0:Sub (.v (.slice none 0 0)) (qK 0):=by
 unfold qK;rw[jS];exact u17
theorem zrowsB(n:Nat):(MR.map (List.replicate n ()) (fun _=>litS [.bool false]) ()).rows=(MR.map (List.replicate n false) bD false).rows:=by
 simp only[MR.rows,List.map_replicate];rfl
theorem set_rowsB(o:List Bool)(j:Nat)(v:Bool):(MR.upd (.map o bD false) j (bD v)).rows=(MR.map (o.set j v) bD false).rows:=by
 simp only[MR.rows,List.map_set]
theorem wH1{P:Program}{E:Pn}{K:DS->Prop}{p:Prop}{r:Out}(hr:r.sat P E K)(hp:p:=by first|exact⟨hm,by rw[<-hm];omega⟩|exact⟨hm,by omega⟩|(constructor<;>omega)|exact Fa):(Out.need p r).sat P E K:=⟨hp,hr⟩
theorem Divide3_ok(a b:Nat)(ha:(dig a).length<=1000000)(hb:(dig b).length<=1000000)(h0:0<b):Fx 192 [qK a,qK b] (.tup [qK (a/b),qK (a%b)]):=by
 have hbl:=bitsN_le a;refine yD zJ Tryz.func192 rfl rfl rfl rfl rfl rfl ?_;intros;refine zK 100 ?_;refine zB (zE zJ [] 200 rfl ?_);refine zF ?_;refine zQ _ (Ones3_ok a om) rfl ?_;refine zF ?_;refine zC (zA (ev_R zJ [1014] 300 ?_));refine yL [1,6] [] 310 [(7,.mo 202 (wC a).length)] [(202,.mrow 4 1 (.map (List.replicate (wC a).length false) bD false))] ?_;refine⟨⟨⟨Sub.mo om,yG⟩,⟨SubO.mr (by rw[zrowsB];congr 3),yF⟩,rfl,rfl⟩,?_⟩;refine zK 400 ?_;refine yL [1,6,7] [202] 410 [(8,qK 0)] [] ?_;refine⟨⟨⟨Sub.nil0,yG⟩,yF,rfl,rfl⟩,?_⟩;refine zB (zK 500 ?_);refine zP ?_;refine yC (ι:=Dv3 a b) [1,6,7] [] 550 (fun x=>[(9,.v (.int .i64 ((x.i:Int)-1))),(8,qK x.R)]) (fun x=>[(202,.mrow 4 1 (.map x.o bD false))]) (fun x=>x.i) (Dv3.start a h0) ?_;refine⟨⟨yG,⟨SubO.mr (by show _=((List.replicate (wC a).length false)++[]).map bD;rw[Cr];rfl),yF⟩,rfl,rfl⟩,fun x=>?_⟩;have hlo:=x.lo;have hm:(wC a).length=(MR.map x.o bD false).len:=by rw[MR.len,x.o_len]
 have hkt:((x.i:Int)-1).toNat=x.i-1:=by omega
 refine zB (zK 600 ?_);refine zZ (fun c5=>?_) (fun c5=>?_)
 ·
  refine zM (zA (zB (zP ?_)));refine zB (zE zJ [] 800 rfl ?_);repeat(first|refine zH ?_|refine wH1 ?_)
  refine zQ _ (qW0 x.R _ (At (yT (Dn x.lt)) om)) rfl ?_;repeat(first|refine zH ?_|refine wH1 ?_)
  refine zC (zA ?_);refine zB (zE zJ [] 900 rfl ?_);refine zF ?_;refine zQ _ (uR _ _ (At (yR1 _ (yT (Dn x.lt)) (Bool.toNat_le _)) om) om) rfl ?_;refine zF ?_;refine zC (zA (zZ (fun c8=>?_) (fun c8=>?_)))
  ·
   refine zB (zE zJ [] 1000 rfl ?_);refine zF ?_;refine zQ _ (xT _ _ ((kV0 _ _).1 (by simpa using c8)) (At (yR1 _ (yT (Dn x.lt)) (Bool.toNat_le _)) om)) rfl ?_;refine zf (zA ?_);refine zE zJ [] 1100 rfl ?_;repeat(first|refine zH ?_|refine wH1 ?_)
   refine zC (zN (zA (yM zJ [] 1200 ?_)));have hge:b<=x.r:=(kV0 _ _).1 (by simpa[Dv3.r,hkt]using c8);exact zS (x.next om true (x.r-b) (by simp;omega) (by have:=x.lt;have:=Bool.toNat_le ((wC a).getD (x.i-1) false);have:x.r=2*x.R+((wC a).getD (x.i-1) false).toNat:=rfl;omega)) ⟨(by repeat(first|exact u21 (by show(x.i:Int)-1-1=((x.i-1:Nat):Int)-1;omega)|exact Sub.of_eq (by(try simp only[hkt]);rfl)|refine⟨?_,?_⟩|exact lx)),⟨SubO.mr (by(try simp only[hkt]);show(MR.upd (.map x.o bD false) (x.i-1) (bD true)).rows=_;rw[set_rowsB,Dv3.o,rep_set om];rfl),yF⟩,rfl,rfl⟩ (by show x.i-1<x.i;omega)
  ·
   refine zM (zN (zA (yM zJ [] 1000 ?_)));have hge:¬b<=x.r:=fun h=>by have:=(kV0 _ _).2 h;revert c8;simp only[hkt];unfold Dv3.r at this;omega
   exact zS (x.next (by omega) false x.r (by simp) (by omega)) ⟨(by repeat(first|exact u21 (by show(x.i:Int)-1-1=((x.i-1:Nat):Int)-1;omega)|exact Sub.of_eq (by(try simp only[hkt]);rfl)|refine⟨?_,?_⟩|exact lx)),⟨SubO.mr (by show(MR.map x.o bD false).rows=(MR.map (List.replicate (x.i-1) false++(false::x.q)) bD false).rows;rw[pA0 om];rfl),yF⟩,rfl,rfl⟩ (by show x.i-1<x.i;omega)
 ·
  refine yE (yA (yB (zY (zA ?_))));refine qT 202 rfl (by repeat(first|exact trivial|exact hm|refine⟨?_,?_⟩)) (by repeat(first|exact trivial|refine⟨?_,?_⟩)) ?_;refine zB (zE zJ [] 1200 rfl ?_);refine zF ?_;refine zQ _ ((xX0 x.o (by rw[x.o_len];omega)).args ⟨SubP.ownSl rfl,trivial⟩) rfl ?_;refine zf (zA (zL ?_));have hz:x.i=0:=by omega
  have e:=x.eq;rw[hz,Do,VB_bitsN]at e;have e2:=divide_end e x.lt;exact u4 rfl (u19 ⟨u9 (by rw[Dv3.o,hz,List.replicate_zero,Dq,e2.1]),u9 (by rw[e2.2];rfl),trivial⟩)
end Go.Proofs.YtammfbdgjnkolaaGreatDoor
