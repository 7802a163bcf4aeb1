/-Part 21 of the proof. -/
import Derived.Test.YtpmjepoceakikaaGreatDoorM20
namespace Go.Proofs.YtpmjepoceakikaaGreatDoor
theorem vD1{o:List Nat}{j y:Nat}(h:j<o.length):VL (o.set j y)+4294967296^j*o.getD j 0=VL o+4294967296^j*y:=by
 induction o generalizing j with
 |nil=>cases h
 |cons d o ih=>
  cases j with
  |zero=>simp[uW];omega
  |succ j=>
   have h1:=ih (j:=j) (by simpa using h);rw[List.set_cons_succ,uW,uW,List.getD_cons_succ,Bx];generalize 4294967296^j=B at*;have e1:B*4294967296*o.getD j 0=4294967296*(B*o.getD j 0):=by rw[Ax B,Bp]
   have e2:B*4294967296*y=4294967296*(B*y):=by rw[Ax B,Bp]
   omega
theorem tD{o:List Nat}{n:Nat}(h:VL (o.drop n)=0):o.getD n 0=0/\VL (o.drop (n+1))=0:=by
 rcases Br n o.length with h1|h1
 ·rw[Ce h1,uW]at h;rw[qQ h1];omega
 ·rw[uC h1,Bd om];exact⟨rfl,rfl⟩
structure MuO(a b:List Nat)where
 i:Nat
 o:List Nat
 eq:VL o=VL (a.take i)*VL b
 lo:o.length=a.length+b.length
 lg:Lg o
 hz:VL (o.drop (i+b.length))=0
 le:i<=a.length
structure MuI(a b:List Nat)(i:Nat)where
 k:Nat
 c:Nat
 o:List Nat
 eq:VL o+c*4294967296^(i+k)=VL (a.take i)*VL b+4294967296^i*(a.getD i 0*VL (b.take k))
 lo:o.length=a.length+b.length
 lg:Lg o
 hz:VL (o.drop (i+b.length))=0
 hc:c<4294967296
 le:k<=b.length
def MuO.start(a b:List Nat):MuO a b:=⟨0,List.replicate (a.length+b.length) 0,by simp[VL,kY0],by simp,cB _,by rw[List.drop_replicate,kY0],Ap _⟩
def MuI.start{a b:List Nat}(x:MuO a b):MuI a b x.i:=⟨0,0,x.o,by simp[VL,x.eq],x.lo,x.lg,x.hz,by decide,Ap _⟩
def MuI.s{a b:List Nat}{i:Nat}(x:MuI a b i):Nat:=x.c+a.getD i 0*b.getD x.k 0+x.o.getD (i+x.k) 0
theorem tR{x y:Nat}(hx:x<4294967296)(hy:y<4294967296):x*y<=18446744065119617025:=Nat.mul_le_mul (show x<=4294967295 by omega) (show y<=4294967295 by omega)
theorem MuI.s_lt{a b:List Nat}{i:Nat}(x:MuI a b i)(ha:Lg a)(hb:Lg b):x.s<18446744073709551616:=by
 have h1:=tR (qD ha i) (qD hb x.k);have h2:=qD x.lg (i+x.k);have h3:=x.hc;unfold MuI.s;omega
theorem mul_step{a b o:List Nat}{i k c s:Nat}(h:VL o+c*4294967296^(i+k)=VL (a.take i)*VL b+4294967296^i*(a.getD i 0*VL (b.take k)))(hj:i+k<o.length)(hs:s=c+a.getD i 0*b.getD k 0+o.getD (i+k) 0):
  VL (o.set (i+k) (s%4294967296))+s/4294967296*4294967296^(i+(k+1))=VL (a.take i)*VL b+4294967296^i*(a.getD i 0*VL (b.take (k+1))):=by
 have h1:=vD1 (y:=s%4294967296) hj;have e0:4294967296^i*(a.getD i 0*VL (b.take (k+1)))=4294967296^i*(a.getD i 0*VL (b.take k))+4294967296^(i+k)*(a.getD i 0*b.getD k 0):=by
  rw[qM b,Bt,Bt,El];congr 1;rw[Bp];congr 1;rw[<-Bp,<-Bp,Ax (a.getD i 0)]
 rw[e0,<-Dy i k 1,Bx];generalize 4294967296^(i+k)=B at*;generalize 4294967296^i*(a.getD i 0*VL (b.take k))=R at*;generalize VL (a.take i)*VL b=Q at*;generalize a.getD i 0*b.getD k 0=M at*;have e:s=4294967296*(s/4294967296)+s%4294967296:=(Dd s 4294967296).symm;have e2:B*s=B*(4294967296*(s/4294967296))+B*(s%4294967296):=by rw[<-Bt,<-e]
 have e3:B*s=B*c+B*M+B*o.getD (i+k) 0:=by rw[hs,Bt,Bt]
 have e4:s/4294967296*(B*4294967296)=B*(4294967296*(s/4294967296)):=by rw[Ax,Bp]
 have e5:c*B=B*c:=Ax _ _;omega
def MuI.next{a b:List Nat}{i:Nat}(x:MuI a b i)(ha:Lg a)(hb:Lg b)(hi:i<a.length)(h:x.k<b.length):MuI a b i:=⟨x.k+1,x.s/4294967296,x.o.set (i+x.k) (x.s%4294967296),mul_step x.eq (by rw[x.lo];omega) rfl,by rw[Cu,x.lo],x.lg.set _ (Cy _ de),by rw[List.drop_set_of_lt om];exact x.hz,by have:=x.s_lt ha hb;omega,h⟩
def MuI.fin{a b:List Nat}{i:Nat}(x:MuI a b i)(hi:i<a.length)(h:b.length<=x.k):MuO a b:=⟨i+1,x.o.set (i+b.length) x.c,by
 have hk:=x.le;have e:x.k=b.length:=by omega
 have h1:=x.eq;have h2:=vD1 (o:=x.o) (j:=i+b.length) (y:=x.c) (by rw[x.lo];omega);rw[(tD x.hz).1]at h2;rw[e,Ak (Aq _)]at h1;rw[qM a,Bm];have e5:x.c*4294967296^(i+b.length)=4294967296^(i+b.length)*x.c:=Ax _ _;rw[Bp];omega,by rw[Cu,x.lo],x.lg.set _ x.hc,by
 rw[List.drop_set_of_lt om,show i+1+b.length=i+b.length+1 by omega];exact(tD x.hz).2,hi⟩
theorem MuO.fin{a b:List Nat}(x:MuO a b)(h:a.length<=x.i):VL x.o=VL a*VL b:=by rw[x.eq,Ak h]
structure Sho(a:List Nat)(d:Nat)where
 k:Nat
 r:Nat
 o:List Nat
 eq:VL (o.drop k)*d+r=VL (a.drop k)
 lo:o.length=a.length
 lg:Lg o
 hr:r<d
 le:k<=a.length
def Sho.start(a:List Nat){d:Nat}(h:0<d):Sho a d:=⟨a.length,0,List.replicate a.length 0,by rw[List.drop_replicate,Nat.sub_self,Bd (Aq _)];simp[VL],by simp,cB _,h,Aq _⟩
def Sho.s{a:List Nat}{d:Nat}(x:Sho a d):Nat:=x.r*4294967296+a.getD (x.k-1) 0
theorem Sho.s_lt{a:List Nat}{d:Nat}(x:Sho a d)(ha:Lg a)(hd:d<4294967296):x.s/d<4294967296:=by
 have h1:=qD ha (x.k-1);have h2:=x.hr;rw[Du om];unfold Sho.s;have:x.r*4294967296+4294967296<=d*4294967296:=by omega
 omega
def Sho.next{a:List Nat}{d:Nat}(x:Sho a d)(ha:Lg a)(hd:d<4294967296)(h:0<x.k):Sho a d:=⟨x.k-1,x.s%d,x.o.set (x.k-1) (x.s/d),by
 have hk:=x.le;have hl:=x.lo;have h1:=x.eq;have e:=Dd x.s d;rw[Ce (by rw[Cu];omega),Ce (l:=a) om,uW,uW,List.getElem_set_self,show x.k-1+1=x.k by omega,List.drop_set_of_lt om,<-h1,<-qQ (by omega:x.k-1<a.length)];rw[Bm,Ax (x.s/d),Bp];rw[Bt];unfold Sho.s at*;generalize VL (x.o.drop x.k)*d=Q at*;omega,by rw[Cu,x.lo],x.lg.set _ (x.s_lt ha hd),Cy _ (by have:=x.hr;omega),by have:=x.le;omega⟩
theorem Sho.fin{a:List Nat}{d:Nat}(x:Sho a d)(h:x.k=0):VL x.o=VL a/d/\x.r=VL a%d:=by
 have h1:=x.eq;have h2:=x.hr;rw[h,Dm,Dm]at h1;have hd:0<d:=by omega
 rw[<-h1];constructor
 ·rw[Ax,Nat.mul_add_div hd,Er h2,Cj]
 ·rw[Ax,Nat.mul_add_mod,Ea h2]
open Go.RowKit
variable{md me:Bool}
theorem hi32{e:Int}{s:Nat}(h:e=(s:Int)):Int.fdiv e (2^min (Int.toNat 32) IntKind.u64.bits)=((s/4294967296:Nat):Int):=by rw[h];exact tW de
theorem lo32{e:Int}{s:Nat}(h:e=(s:Int)):IntKind.u32.wrap e=((s%4294967296:Nat):Int):=by
 rw[h];simp only[IntKind.wrap,IntKind.signed,IntKind.bits,Cd,Bb,if_false];omega
theorem vW{l:List Nat}{y:Nat}{e:Int}(h:e=(y:Int)):l.map uD++[[.v (.int .u32 e)]]=(l++[y]).map uD:=by rw[Ad,h];rfl
theorem vY0{a b:List Nat}(x:PlL a b){e:Int}(h:e=(x.c:Int)+((a.getD x.k 0:Nat):Int)+((b.getD x.k 0:Nat):Int)):e=((x.s:Nat):Int):=by
 rw[h];unfold PlL.s;omega
theorem natAdd0_ok(a b:Nat)(ha:(lim a).length<=100000)(hb:(lim b).length<=100000):Fx 250 [usD (lim a),usD (lim b)] (usD (lim (a+b))):=by
 refine yF zJ Tryz.func250 rfl rfl rfl rfl rfl rfl ?_;intros;refine zK 100 ?_;refine zB (zK 200 ?_);refine zY (fun c1=>?_) (fun c1=>?_)
 ·
  refine yM zJ [] 300 ?_;refine zA (ev_R zJ [1019] 400 ?_);refine jC 303 rfl (by repeat(first|exact trivial|exact rfl|refine⟨?_,?_⟩)) (by repeat(first|exact trivial|refine⟨?_,?_⟩)) ?_;refine zK 500 ?_;refine zB (zK 600 ?_);refine zO ?_;refine yC (ι:=PlL (lim b) (lim a)) [1,20,21] [] 650 (fun x=>[(22,.v (.int .i64 (x.k:Nat))),(6,.v (.int .u64 (x.c:Nat))),(5,.own 303 1 (x.o.map uD))]) (fun x=>[(303,.row 100 1 (x.o.map uD).length)]) (fun x=>(lim b).length-x.k) (PlL.start _ _) ?_;refine⟨⟨yG,yE,rfl,rfl⟩,fun x=>?_⟩;have hk:=x.le;have hk2:=x.lo;have hk3:=x.hc;have hk4:=qD (yX b) x.k;have hk5:=qD (yX a) x.k;refine zK 700 ?_;refine zB (zY (fun c6=>?_) (fun c6=>?_))
  ·
   refine zL (zA (zB (zO (zK 800 ?_))));refine zK 900 ?_;refine zB (zK 1000 ?_);refine zY (fun c9=>?_) (fun c9=>?_)
   ·
    refine yM zJ [] 1100 ?_;refine zA (zK 1200 ?_);refine yM zJ [] 1300 ?_;refine zN (zA (yM zJ [] 1400 ?_));have zb:= @uC (lim a) x.k;exact zS (x.next (yX b) (yX a) (by omega)) ⟨(by repeat(first|exact u21 (by show(x.k:Int)+1=((x.k+1:Nat):Int);omega)|exact u21 (hi32 (vY0 x (by(try simp only[Ah]);simp only[IntKind.wrap,IntKind.signed,IntKind.bits,Cd,Bb,if_false];omega)))|exact Sub.own (vW (lo32 (vY0 x (by(try simp only[Ah]);simp only[IntKind.wrap,IntKind.signed,IntKind.bits,Cd,Bb,if_false];omega))))|refine⟨?_,?_⟩|exact lx)),(by repeat(first|exact trivial|exact u15 rfl|exact⟨rfl,rfl,by show _=(List.map uD (x.o++_)).length;simp⟩|refine⟨?_,?_⟩)),rfl,rfl⟩ (by show(lim b).length-(x.k+1)<(lim b).length-x.k;omega)
   ·
    refine zL (zA (zK 1200 ?_));refine yM zJ [] 1300 ?_;refine zN (zA (yM zJ [] 1400 ?_));have zb:= @uC (lim a) x.k;exact zS (x.next (yX b) (yX a) (by omega)) ⟨(by repeat(first|exact u21 (by show(x.k:Int)+1=((x.k+1:Nat):Int);omega)|exact u21 (hi32 (vY0 x (by(try simp only[Ah]);simp only[IntKind.wrap,IntKind.signed,IntKind.bits,Cd,Bb,if_false];omega)))|exact Sub.own (vW (lo32 (vY0 x (by(try simp only[Ah]);simp only[IntKind.wrap,IntKind.signed,IntKind.bits,Cd,Bb,if_false];omega))))|refine⟨?_,?_⟩|exact lx)),(by repeat(first|exact trivial|exact u15 rfl|exact⟨rfl,rfl,by show _=(List.map uD (x.o++_)).length;simp⟩|refine⟨?_,?_⟩)),rfl,rfl⟩ (by show(lim b).length-(x.k+1)<(lim b).length-x.k;omega)
  ·
   refine yD (yA (yB (zZ (zA ?_))));refine zB (zE zJ [] 1500 rfl ?_);refine zF ?_;refine zQ _ ((jN (x.o++[x.c]) (x.lg.snoc om) (by simp;omega)).args ⟨SubP.ownSl (vW (by simp only[IntKind.wrap,IntKind.signed,IntKind.bits,Cd,Bb,if_false];omega)),trivial⟩) rfl ?_;refine zf (zA (zM ?_));have e:=(x.fin om om).1;rw[vG,vG]at e;exact u4 rfl (u9 (by rw[e];(try rw[Nat.add_comm])))
 ·
  refine zL (zA (ev_R zJ [1019] 400 ?_));refine jC 203 rfl (by repeat(first|exact trivial|exact rfl|refine⟨?_,?_⟩)) (by repeat(first|exact trivial|refine⟨?_,?_⟩)) ?_;refine zK 500 ?_;refine zB (zK 600 ?_);refine zO ?_;refine yC (ι:=PlL (lim a) (lim b)) [1,20,21] [] 650 (fun x=>[(22,.v (.int .i64 (x.k:Nat))),(6,.v (.int .u64 (x.c:Nat))),(5,.own 203 1 (x.o.map uD))]) (fun x=>[(203,.row 100 1 (x.o.map uD).length)]) (fun x=>(lim a).length-x.k) (PlL.start _ _) ?_;refine⟨⟨yG,yE,rfl,rfl⟩,fun x=>?_⟩;have hk:=x.le;have hk2:=x.lo;have hk3:=x.hc;have hk4:=qD (yX a) x.k;have hk5:=qD (yX b) x.k;refine zK 700 ?_;refine zB (zY (fun c6=>?_) (fun c6=>?_))
  ·
   refine zL (zA (zB (zO (zK 800 ?_))));refine zK 900 ?_;refine zB (zK 1000 ?_);refine zY (fun c9=>?_) (fun c9=>?_)
   ·
    refine yM zJ [] 1100 ?_;refine zA (zK 1200 ?_);refine yM zJ [] 1300 ?_;refine zN (zA (yM zJ [] 1400 ?_));have zb:= @uC (lim b) x.k;exact zS (x.next (yX a) (yX b) (by omega)) ⟨(by repeat(first|exact u21 (by show(x.k:Int)+1=((x.k+1:Nat):Int);omega)|exact u21 (hi32 (vY0 x (by(try simp only[Ah]);simp only[IntKind.wrap,IntKind.signed,IntKind.bits,Cd,Bb,if_false];omega)))|exact Sub.own (vW (lo32 (vY0 x (by(try simp only[Ah]);simp only[IntKind.wrap,IntKind.signed,IntKind.bits,Cd,Bb,if_false];omega))))|refine⟨?_,?_⟩|exact lx)),(by repeat(first|exact trivial|exact u15 rfl|exact⟨rfl,rfl,by show _=(List.map uD (x.o++_)).length;simp⟩|refine⟨?_,?_⟩)),rfl,rfl⟩ (by show(lim a).length-(x.k+1)<(lim a).length-x.k;omega)
   ·
    refine zL (zA (zK 1200 ?_));refine yM zJ [] 1300 ?_;refine zN (zA (yM zJ [] 1400 ?_));have zb:= @uC (lim b) x.k;exact zS (x.next (yX a) (yX b) (by omega)) ⟨(by repeat(first|exact u21 (by show(x.k:Int)+1=((x.k+1:Nat):Int);omega)|exact u21 (hi32 (vY0 x (by(try simp only[Ah]);simp only[IntKind.wrap,IntKind.signed,IntKind.bits,Cd,Bb,if_false];omega)))|exact Sub.own (vW (lo32 (vY0 x (by(try simp only[Ah]);simp only[IntKind.wrap,IntKind.signed,IntKind.bits,Cd,Bb,if_false];omega))))|refine⟨?_,?_⟩|exact lx)),(by repeat(first|exact trivial|exact u15 rfl|exact⟨rfl,rfl,by show _=(List.map uD (x.o++_)).length;simp⟩|refine⟨?_,?_⟩)),rfl,rfl⟩ (by show(lim a).length-(x.k+1)<(lim a).length-x.k;omega)
  ·
   refine yD (yA (yB (zZ (zA ?_))));refine zB (zE zJ [] 1500 rfl ?_);refine zF ?_;refine zQ _ ((jN (x.o++[x.c]) (x.lg.snoc om) (by simp;omega)).args ⟨SubP.ownSl (vW (by simp only[IntKind.wrap,IntKind.signed,IntKind.bits,Cd,Bb,if_false];omega)),trivial⟩) rfl ?_;refine zf (zA (zM ?_));have e:=(x.fin om om).1;rw[vG,vG]at e;exact u4 rfl (u9 (by rw[e];(try rw[Nat.add_comm])))
theorem yX1(n:Nat):(MR.map (List.replicate n ()) (fun _=>litS [.int .u32 0]) ()).rows=(MR.map (List.replicate n 0) uD 0).rows:=by
 simp only[MR.rows,List.map_replicate];rfl
theorem tL(o:List Nat)(j v:Nat):(MR.upd (.map o uD 0) j (uD v)).rows=(MR.map (o.set j v) uD 0).rows:=by
 simp only[MR.rows,List.map_set]
theorem w64{n:Nat}(h:n<18446744073709551616):IntKind.u64.wrap (n:Int)=(n:Int):=by
 simp only[IntKind.wrap,IntKind.signed,IntKind.bits,Cd,Bb,if_false];omega
theorem w32n{n:Nat}(h:n<4294967296):IntKind.u32.wrap (n:Int)=(n:Int):=by
 simp only[IntKind.wrap,IntKind.signed,IntKind.bits,Cd,Bb,if_false];omega
theorem muI_s{a b:List Nat}{i:Nat}(y:MuI a b i)(ha:Lg a)(hb:Lg b):IntKind.u64.wrap ((y.c:Int)+IntKind.u64.wrap (IntKind.u64.wrap (IntKind.u64.wrap ((a.getD i 0:Nat):Int)*IntKind.u64.wrap ((b.getD y.k 0:Nat):Int))+IntKind.u64.wrap ((y.o.getD (i+y.k) 0:Nat):Int)))=((y.s:Nat):Int):=by
 have h0:=y.s_lt ha hb;have h1:=qD ha i;have h2:=qD hb y.k;have h3:=qD y.lg (i+y.k);have h4:=tR h1 h2;have h5:=y.hc;unfold MuI.s at*;rw[w64 (n:=a.getD i 0) om,w64 (n:=b.getD y.k 0) om,w64 (n:=y.o.getD (i+y.k) 0) om,<-Int.natCast_mul,w64 (n:=a.getD i 0*b.getD y.k 0) om,<-Int.natCast_add,w64 (n:=a.getD i 0*b.getD y.k 0+y.o.getD (i+y.k) 0) om,<-Int.natCast_add,w64 om];congr 1;omega
theorem vV1{P:Program}{E:Pn}{K:DS->Prop}{p:Prop}{r:Out}(hr:r.sat P E K)(hp:p:=by first|exact⟨hm2,by rw[<-hm2];omega⟩|exact⟨hm2,by omega⟩|exact⟨hm,by rw[<-hm];omega⟩|exact⟨hm,by omega⟩|exact Ew):(Out.need p r).sat P E K:=⟨hp,hr⟩
theorem natMul0_ok(a b:Nat)(ha:(lim a).length<=100000)(hb:(lim b).length<=100000):Fx 247 [usD (lim a),usD (lim b)] (usD (lim (a*b))):=by
 refine yF zJ Tryz.func247 rfl rfl rfl rfl rfl rfl ?_;intros;refine zK 100 ?_;refine ev_R zJ [1016] 200 ?_;refine yK [0,1] [] 210 [(5,.mo 105 ((lim a).length+(lim b).length))] [(105,.mrow 100 1 (.map (List.replicate ((lim a).length+(lim b).length) 0) uD 0))] ?_;refine⟨⟨⟨Sub.mo om,yG⟩,⟨SubO.mr (by rw[yX1];congr 3),yE⟩,rfl,rfl⟩,?_⟩;refine zB (zK 300 ?_);refine zO ?_;refine yC (ι:=MuO (lim a) (lim b)) [1,5,17,18] [] 350 (fun x=>[(19,.v (.int .i64 (x.i:Nat)))]) (fun x=>[(105,.mrow 100 1 (.map x.o uD 0))]) (fun x=>(lim a).length-x.i) (MuO.start _ _) ?_;refine⟨⟨yG,yE,rfl,rfl⟩,fun x=>?_⟩;have hk:=x.le;have hlo:=x.lo;have hm:((lim a).length+(lim b).length)=(MR.map x.o uD 0).len:=by rw[MR.len,hlo]
 refine zK 400 ?_;refine zB (zY (fun c3=>?_) (fun c3=>?_))
 ·
  refine zL (zA (zB (zO (zK 500 ?_))));refine zK 600 ?_;refine zB (zK 700 ?_);refine zO ?_;refine yC (ι:=MuI (lim a) (lim b) x.i) [1,5,6,7,17,18,19,24,25] [] 750 (fun y=>[(26,.v (.int .i64 (y.k:Nat))),(8,.v (.int .u64 (y.c:Nat)))]) (fun y=>[(105,.mrow 100 1 (.map y.o uD 0))]) (fun y=>(lim b).length-y.k) (MuI.start x) ?_;refine⟨⟨yG,yE,rfl,rfl⟩,fun y=>?_⟩;have hky:=y.le;have hly:=y.lo;have hm2:((lim a).length+(lim b).length)=(MR.map y.o uD 0).len:=by rw[MR.len,hly]
  have hj:((x.i:Int)+(y.k:Int)).toNat=x.i+y.k:=by omega
  have es:=muI_s y (yX a) (yX b);refine zK 800 ?_;refine zB (zY (fun c7=>?_) (fun c7=>?_))
  ·
   refine zL (zA (zB (zO (zK 900 ?_))));refine zB (zE zJ [] 1000 rfl ?_);repeat(first|refine zH ?_|refine vV1 ?_)
   refine zC (zA ?_);refine zB (zE zJ [] 1100 rfl ?_);repeat(first|refine zH ?_|refine vV1 ?_)
   refine zC (zA (yM zJ [] 1200 ?_));refine zN (zA (yM zJ [] 1300 ?_));exact zS (y.next (yX a) (yX b) (by omega) (by omega)) ⟨(by repeat(first|exact u21 (by show(y.k:Int)+1=((y.k+1:Nat):Int);omega)|exact u21 (by(try simp only[hj,Ah]);rw[es];exact hi32 rfl)|refine⟨?_,?_⟩|exact lx)),⟨SubO.mr (by(try simp only[hj,Ah]);rw[es,lo32 rfl];exact tL _ _ _),yE⟩,rfl,rfl⟩ (by show(lim b).length-(y.k+1)<(lim b).length-y.k;omega)
  ·
   refine yD (yA (yB (zZ (zA ?_))));refine zE zJ [] 1400 rfl ?_;repeat(first|refine zH ?_|refine vV1 ?_)
   refine zC (zN (zA (yM zJ [] 1500 ?_)));exact zS (y.fin (by omega) (by omega)) ⟨(by repeat(first|exact u21 (by show(x.i:Int)+1=((x.i+1:Nat):Int);omega)|refine⟨?_,?_⟩|exact lx)),⟨SubO.mr (by have hj:((x.i:Int)+((lim b).length:Int)).toNat=x.i+(lim b).length:=om;(try simp only[hj]);rw[w32n y.hc];exact tL _ _ _),yE⟩,rfl,rfl⟩ (by show(lim a).length-(x.i+1)<(lim a).length-x.i;omega)
 ·
  refine yD (yA (yB (zZ (zA ?_))));refine jC 105 rfl (by repeat(first|exact trivial|exact hm|refine⟨?_,?_⟩)) (by repeat(first|exact trivial|refine⟨?_,?_⟩)) ?_;refine zB (zE zJ [] 1600 rfl ?_);refine zF ?_;refine zQ _ ((jN x.o x.lg om).args ⟨SubP.ownSl rfl,trivial⟩) rfl ?_;refine zf (zA (zM ?_));have e:=x.fin om;rw[vG,vG]at e;exact u4 rfl (u9 (by rw[e]))
theorem or64{h l:Nat}(hh:h<4294967296)(hl:l<4294967296):bOr .u64 (IntKind.u64.wrap (IntKind.u64.wrap (h:Int)*2^min (Int.toNat 32) IntKind.u64.bits)) (IntKind.u64.wrap (l:Int))=((h*4294967296+l:Nat):Int):=by
 rw[show((2:Int)^min (Int.toNat 32) IntKind.u64.bits)=((4294967296:Nat):Int) by decide,w64 (n:=h) om,w64 (n:=l) om,<-Int.natCast_mul,w64 (n:=h*4294967296) om];show IntKind.u64.wrap ((BitVec.ofInt 64 ((h*4294967296:Nat):Int)|||BitVec.ofInt 64 ((l:Nat):Int)).toNat:Int)=_;rw[BitVec.ofInt_natCast,BitVec.ofInt_natCast,BitVec.toNat_or,BitVec.toNat_ofNat,BitVec.toNat_ofNat,Ea om,Ea om];have e:=Nat.two_pow_add_eq_or_of_lt (i:=32) (b:=l) (by simpa using hl) h;rw[show(2:Nat)^32=4294967296 by decide,Ax 4294967296 h]at e;rw[<-e,w64 om]
theorem div32_ok{h l d:Int}(hh:I32 h)(hl:I32 l)(hd:I32 d)(hlt:h<d):
  bOr .u64 (IntKind.u64.wrap (IntKind.u64.wrap h*2^min (Int.toNat 32) IntKind.u64.bits)) (IntKind.u64.wrap l)=((h.toNat*4294967296+l.toNat:Nat):Int)/\IntKind.u64.wrap d=((d.toNat:Nat):Int)/\(h.toNat*4294967296+l.toNat)/d.toNat<4294967296/\(h.toNat*4294967296+l.toNat)%d.toNat<4294967296:=by
 obtain⟨h,rfl⟩:=Cz hh.1;obtain⟨l,rfl⟩:=Cz hl.1;obtain⟨d,rfl⟩:=Cz hd.1;have h1:=hh.2;have h2:=hl.2;have h3:=hd.2;simp only[Ah];refine⟨or64 om om,w64 om,?_,?_⟩
 ·rw[Du om];omega
 ·exact Bu (Cy _ om) om
theorem qF1{P:Program}{E:Pn}{K:DS->Prop}{p:Prop}{r:Out}(hr:r.sat P E K)(hp:p:=by first|(rw[e2];omega)|exact Ew):(Out.need p r).sat P E K:=⟨hp,hr⟩
theorem Div32_ok(h l d:Int)(hh:I32 h)(hl:I32 l)(hd:I32 d)(hlt:h<d):Fx 267 [.v (.int .u32 h),.v (.int .u32 l),.v (.int .u32 d)] (.tup [.v (.int .u32 ((h.toNat*4294967296+l.toNat)/d.toNat:Nat)),.v (.int .u32 ((h.toNat*4294967296+l.toNat)%d.toNat:Nat))]):=by
 obtain⟨e1,e2,e3,e4⟩:=div32_ok hh hl hd hlt;have hd0:0<d:=by have:=hh.1;omega
 refine yF zJ Tryz.func267 rfl rfl rfl rfl rfl rfl ?_;intros;refine zB (zE zJ [] 100 rfl ?_);repeat(first|refine zH ?_|refine qF1 ?_)
 refine zC (zA (zB ?_));refine zB (zE zJ [] 200 rfl ?_);repeat(first|refine zH ?_|refine qF1 ?_)
 refine zC (zA (zY (fun c1=>?_) (fun c1=>?_)))
 ·
  exact absurd c1 (by simp;omega)
 ·
  refine zL (zA ?_);refine zB (zE zJ [] 400 rfl ?_);repeat(first|refine zH ?_|refine qF1 ?_)
  refine zC (zA ?_);refine zB (zX zJ [] [[],[],[1],[0,1,2],[0,1,2,3],[],[],[6],[5,6,7],[5,6,7,8],(rgN 5),(rgN 11)] 500 yT kr rfl ?_);repeat(first|refine zH ?_|refine qF1 ?_)
  refine zC (zA (zM ?_));exact u4 rfl (u19 ⟨u10 (by rw[e1,e2,<-Int.ofNat_tdiv,w64 (Nat.lt_trans e3 de),w32n e3]),u10 (by rw[e1,e2,<-Int.ofNat_tmod,w32n e4]),trivial⟩)
variable{md me:Bool}
theorem wI0(a b:Nat)(ha:(lim a).length<=600)(hb:(lim b).length<=600)(hab:(lim (a+b)).length<=600):Fx 232 [usD (lim a),usD (lim b)] (.tup [usD (lim (a+b)),faD 0 0]):=by
 refine yF zJ Tryz.func232 rfl rfl rfl rfl rfl rfl ?_;intros;refine zK 100 ?_;refine zB ?_;refine zB (zE zJ [] 200 rfl ?_);refine zF ?_;refine zQ _ (wF _ _ ao ao) rfl ?_;refine zF ?_;refine zC (zA (zK 300 ?_));refine zY (fun c2=>?_) (fun c2=>?_)
 ·
  exact absurd c2 de
 ·
  refine zL (zA ?_);refine zB (zE zJ [] 500 rfl ?_);refine zF ?_;refine zQ _ (natAdd0_ok a b om om) rfl ?_;refine zF ?_;refine zQ _ (wG0 (lim (a+b)) (yX _) om (by rw[vG];exact hab)) rfl ?_;refine zf (zA (zM ?_));exact u4 rfl (u19 ⟨u9 (by rw[vG]),u6 _,trivial⟩)
theorem natMul_ok(a b:Nat)(ha:(lim a).length<=600)(hb:(lim b).length<=600)(hab:(lim (a*b)).length<=600):Fx 229 [usD (lim a),usD (lim b)] (.tup [usD (lim (a*b)),faD 0 0]):=by
 refine yF zJ Tryz.func229 rfl rfl rfl rfl rfl rfl ?_;intros;refine zK 100 ?_;refine zB ?_;refine zB (zE zJ [] 200 rfl ?_);refine zF ?_;refine zQ _ (wF _ _ ao ao) rfl ?_;refine zF ?_;refine zC (zA (zK 300 ?_));refine zY (fun c2=>?_) (fun c2=>?_)
 ·
  exact absurd c2 de
 ·
  refine zL (zA ?_);refine zB (zE zJ [] 500 rfl ?_);refine zF ?_;refine zQ _ (natMul0_ok a b om om) rfl ?_;refine zF ?_;refine zQ _ (wG0 (lim (a*b)) (yX _) om (by rw[vG];exact hab)) rfl ?_;refine zf (zA (zM ?_));exact u4 rfl (u19 ⟨u9 (by rw[vG]),u6 _,trivial⟩)
theorem zC0(a b:Nat)(ha:(lim a).length<=600)(hb:(lim b).length<=600)(hle:b<=a):Fx 233 [usD (lim a),usD (lim b)] (.tup [usD (lim (a-b)),faD 0 0]):=by
 have hneg:=dL0 a b;refine yF zJ Tryz.func233 rfl rfl rfl rfl rfl rfl ?_;intros;refine zK 100 ?_;refine zB ?_;refine zB (zE zJ [] 200 rfl ?_);refine zF ?_;refine zQ _ (wF _ _ ao ao) rfl ?_;refine zF ?_;refine zC (zA (zK 300 ?_));refine zY (fun c2=>?_) (fun c2=>?_)
 ·
  exact absurd c2 de
 ·
  refine zL (zA (zB ?_));refine zB (zE zJ [] 500 rfl ?_);refine zF ?_;refine zQ _ (xX a b om om) rfl ?_;refine zF ?_;refine zC (zA (zY (fun c4=>?_) (fun c4=>?_)))
  ·
   exact absurd c4 (by simp;omega)
  ·
   refine zL (zA ?_);refine zB (zE zJ [] 700 rfl ?_);refine zF ?_;refine zQ _ (natSub0_ok _ _ ao ao ao) rfl ?_;refine zf (zA (zM ?_));exact u4 rfl (u6 _)
theorem xQ1{P:Program}{E:Pn}{K:DS->Prop}{p:Prop}{r:Out}(hr:r.sat P E K)(hp:p:=by first|exact⟨hm,by rw[<-hm];omega⟩|exact⟨hm,by omega⟩|exact Ew):(Out.need p r).sat P E K:=⟨hp,hr⟩
theorem natShort_ok(a d:Nat)(ha:(lim a).length<=100000)(h0:0<d)(hd:d<4294967296):Fx 262 [usD (lim a),.v (.int .u32 d)] (.tup [usD (lim (a/d)),.v (.int .u32 (a%d:Nat))]):=by
 refine yF zJ Tryz.func262 rfl rfl rfl rfl rfl rfl ?_;intros;refine zK 100 ?_;refine ev_R zJ [1011] 200 ?_;refine yK [0,1] [] 210 [(6,.mo 102 (lim a).length)] [(102,.mrow 100 1 (.map (List.replicate (lim a).length 0) uD 0))] ?_;refine⟨⟨⟨Sub.mo om,yG⟩,⟨SubO.mr (by rw[yX1];congr 3),yE⟩,rfl,rfl⟩,?_⟩;refine zK 300 ?_;refine zB (zK 400 ?_);refine zO ?_;refine yC (ι:=Sho (lim a) d) [0,1,6] [] 450 (fun x=>[(8,.v (.int .i64 ((x.k:Int)-1))),(7,.v (.int .u32 (x.r:Nat)))]) (fun x=>[(102,.mrow 100 1 (.map x.o uD 0))]) (fun x=>x.k) (Sho.start _ h0) ?_;refine⟨⟨yG,yE,rfl,rfl⟩,fun x=>?_⟩;have hk:=x.le;have hlo:=x.lo;have hr:=x.hr;have hm:(lim a).length=(MR.map x.o uD 0).len:=by rw[MR.len,hlo]
 have hkt:((x.k:Int)-1).toNat=x.k-1:=by omega
 refine zB (zK 500 ?_);refine zY (fun c4=>?_) (fun c4=>?_)
 ·
  refine zL (zA (zB (zO ?_)));refine zE zJ [] 700 rfl ?_;repeat(first|refine zH ?_|refine xQ1 ?_)
  refine zQ _ (Div32_ok _ _ _ ⟨by omega,by omega⟩ (pN (yX a) _) ⟨by omega,by omega⟩ om) rfl ?_;repeat(first|refine zH ?_|refine xQ1 ?_)
  refine zC (zN (zA (yM zJ [] 800 ?_)));have es:x.s=x.r*4294967296+(lim a).getD (x.k-1) 0:=rfl;exact zS (x.next (yX a) hd om) ⟨⟨u21 (by show(x.k:Int)-1-1=((x.k-1:Nat):Int)-1;omega),u21 (by simp only[hkt,Ah];show _=((x.s%d:Nat):Int);rw[es]),yG⟩,⟨SubO.mr (by simp only[hkt,Ah];show _=(MR.map (x.o.set (x.k-1) (x.s/d)) uD 0).rows;rw[es];exact tL _ _ _),yE⟩,rfl,rfl⟩ (by show x.k-1<x.k;omega)
 ·
  refine yD (yA (yB (zZ (zA ?_))));refine jC 102 rfl (by repeat(first|exact trivial|exact hm|refine⟨?_,?_⟩)) (by repeat(first|exact trivial|refine⟨?_,?_⟩)) ?_;refine zB (zE zJ [] 800 rfl ?_);refine zF ?_;refine zQ _ ((jN x.o x.lg om).args ⟨SubP.ownSl rfl,trivial⟩) rfl ?_;refine zf (zA (zM ?_));have e:=x.fin om;rw[vG]at e;exact u4 rfl (u19 ⟨u9 (by rw[e.1]),u10 (by rw[e.2]),trivial⟩)
theorem cI(n:Nat):2^n=4294967296^(n/32)*2^(n%32):=by
 conv=>lhs;rw[<-Dd n 32]
 rw[El,Nat.pow_mul]
theorem wX1(n:Nat):4294967296=2^(n%32)*2^(32-n%32):=by
 have h:=Cy n (show 0<32 by decide);rw[<-El,show n%32+(32-n%32)=32 by omega]
theorem qX1(n:Nat):0<2^(n%32):=Nat.pow_pos de
theorem P_le(n:Nat):2^(n%32)<=2147483648:=by
 have h:=Cy n (show 0<32 by decide);have h1:2^(n%32)<=2^31:=Bg de om;simpa using h1
structure Lf(l:List Nat)(n:Nat)where
 k:Nat
 c:Nat
 o:List Nat
 eq:VL o+c*4294967296^(n/32+k)=VL (l.take k)*2^n
 lo:o.length=n/32+k
 lg:Lg o
 hc:c<2^(n%32)
 le:k<=l.length
def Lf.start(l:List Nat)(n:Nat):Lf l n:=⟨0,0,List.replicate (n/32) 0,by simp[kY0,VL],by simp,cB _,qX1 n,Ap _⟩
def Lf.w{l:List Nat}{n:Nat}(x:Lf l n):Nat:=l.getD x.k 0*2^(n%32)
theorem uB1(x n:Nat):x*2^(n%32)%4294967296=2^(n%32)*(x%2^(32-n%32)):=by
 conv=>lhs;rw[wX1 n,Ax x]
 rw[Nat.mul_mod_mul_left]
theorem lf_or{x n c:Nat}(hc:c<2^(n%32)):x*2^(n%32)%4294967296|||c=x*2^(n%32)%4294967296+c:=by
 rw[uB1,Nat.two_pow_add_eq_or_of_lt hc]
theorem gG1{x n c:Nat}(hc:c<2^(n%32)):x*2^(n%32)%4294967296+c<4294967296:=by
 have h0:=wX1 n;have h1:x%2^(32-n%32)<2^(32-n%32):=Cy _ (Nat.pow_pos de);have h2:2^(n%32)*(x%2^(32-n%32)+1)<=2^(n%32)*2^(32-n%32):=Cx _ h1;rw[Bt]at h2;rw[uB1];omega
theorem lf_w_lt{x:Nat}(n:Nat)(h:x<4294967296):x*2^(n%32)<18446744073709551616:=by
 have h1:x*2^(n%32)<=4294967295*2147483648:=Nat.mul_le_mul om (P_le n);omega
theorem gH1{x:Nat}(n:Nat)(h:x<4294967296):x*2^(n%32)/4294967296<2^(n%32):=by
 rw[Du de,Ax];exact Nat.mul_lt_mul_of_pos_left h (qX1 n)
theorem lf_step{l o:List Nat}{n k c:Nat}(h:VL o+c*4294967296^(n/32+k)=VL (l.take k)*2^n)(ho:o.length=n/32+k):
  VL (o++[l.getD k 0*2^(n%32)%4294967296+c])+l.getD k 0*2^(n%32)/4294967296*4294967296^(n/32+(k+1))=VL (l.take (k+1))*2^n:=by
 have e0:4294967296^k*l.getD k 0*2^n=4294967296^(n/32+k)*(l.getD k 0*2^(n%32)):=by
  rw[cI n,El,Nat.mul_mul_mul_comm,Ax (4294967296^k)]
 rw[mE,ho,qM l,Bm,e0,<-Dy (n/32) k 1,Bx];generalize 4294967296^(n/32+k)=B at*;generalize l.getD k 0*2^(n%32)=w at*;generalize VL (l.take k)*2^n=R at*;have e:=Dd w 4294967296;have e2:B*w=B*(4294967296*(w/4294967296))+B*(w%4294967296):=by rw[<-Bt,e]
 have e3:B*(w%4294967296+c)=B*(w%4294967296)+B*c:=Bt _ _ _;have e4:w/4294967296*(B*4294967296)=B*(4294967296*(w/4294967296)):=by rw[Ax,Bp]
 have e5:c*B=B*c:=Ax _ _;omega
def Lf.next{l:List Nat}{n:Nat}(x:Lf l n)(hg:Lg l)(h:x.k<l.length):Lf l n:=⟨x.k+1,x.w/4294967296,x.o++[x.w%4294967296+x.c],lf_step x.eq x.lo,by simp[x.lo];omega,x.lg.snoc (gG1 x.hc),gH1 n (qD hg _),h⟩
theorem Lf.fin{l:List Nat}{n:Nat}(x:Lf l n)(h:l.length<=x.k):VL (x.o++[x.c])=VL l*2^n/\Lg (x.o++[x.c])/\(x.o++[x.c]).length=n/32+l.length+1:=by
 have hk:=x.le;have h1:=x.eq;have h2:=P_le n;have h3:=x.hc;rw[Ak h]at h1;refine⟨by rw[mE,x.lo,Ax];exact h1,x.lg.snoc om,by rw[Af,x.lo,Cg];omega⟩
theorem yQ1{l:List Nat}(hg:Lg l)(i:Nat):VL l/4294967296^i=VL (l.drop i):=by
 rcases Br i l.length with h|h
 ·have h1:=wP l i (Dl h);have h2:=L_lt (hg.take i);rw[At,Dj (Dl h)]at h2;rw[h1,Nat.add_mul_div_left _ _ (Nat.pow_pos de),Er h2,Co]
 ·rw[Bd h,xZ0];exact Er (Bu (L_lt hg) (Bg de h))
theorem vN(l:List Nat)(i:Nat):VL (l.drop i)=l.getD i 0+4294967296*VL (l.drop (i+1)):=by
 rcases Br i l.length with h|h
 ·rw[Ce h,uW,qQ h]
 ·rw[Bd h,Bd om,uC h];rfl
structure Rg(l:List Nat)(n:Nat)where
 k:Nat
 o:List Nat
 eq:VL o=VL l/2^n%4294967296^k
 lo:o.length=k
 lg:Lg o
 le:k<=l.length
def Rg.start(l:List Nat)(n:Nat):Rg l n:=⟨0,[],by rw[Nat.pow_zero,Nat.mod_one];rfl,rfl,Lg.nil,Ap _⟩
def Rg.w{l:List Nat}{n:Nat}(x:Rg l n):Nat:=l.getD (n/32+x.k) 0+4294967296*l.getD (n/32+x.k+1) 0
theorem rg_limb{l:List Nat}{n k:Nat}(hg:Lg l):VL l/2^n/4294967296^k%4294967296=(l.getD (n/32+k) 0+4294967296*l.getD (n/32+k+1) 0)/2^(n%32)%4294967296:=by
 rw[Nat.div_div_eq_div_mul,cI n,Nat.mul_right_comm,<-El,<-Nat.div_div_eq_div_mul,yQ1 hg,vN,vN l (n/32+k+1),Bt,<-Dy];generalize l.getD (n/32+k) 0+4294967296*l.getD (n/32+k+1) 0=W;generalize VL (l.drop (n/32+k+1+1))=R;have e:4294967296*(4294967296*R)=2^(n%32)*(4294967296*(2^(32-n%32)*R)):=by
  have h:=wX1 n;generalize 2^(n%32)=P at*;generalize 2^(32-n%32)=T at*
  calc 4294967296*(4294967296*R)=(P*T)*(4294967296*R):=by rw[<-h]
   _=P*(4294967296*(T*R)):=by rw[Bp,Nat.mul_left_comm T]
 rw[e,Nat.add_mul_div_left _ _ (qX1 n),Nat.add_mul_mod_self_left]
def Rg.next{l:List Nat}{n:Nat}(x:Rg l n)(hg:Lg l)(h:n/32+x.k<l.length):Rg l n:=⟨x.k+1,x.o++[x.w/2^(n%32)%4294967296],by
 rw[mE,x.lo,x.eq];unfold Rg.w;rw[<-rg_limb hg,Bx,Nat.mod_mul],by simp[x.lo],x.lg.snoc (Cy _ de),by omega⟩
theorem Rg.fin{l:List Nat}{n:Nat}(x:Rg l n)(hg:Lg l)(h:l.length<=n/32+x.k):VL x.o=VL l/2^n:=by
 rw[x.eq];refine Ea ?_;have h1:VL l<4294967296^(n/32+x.k):=Bu (L_lt hg) (Bg de h);rw[Du (Nat.pow_pos de)];refine Bu h1 ?_;rw[El,Ax,cI n];exact Cx _ (Nat.le_mul_of_pos_right _ (qX1 n))
variable{md me:Bool}
theorem xU1(n:Nat):min (Int.tmod (n:Int) 32).toNat IntKind.u64.bits=n%32:=by
 rw[Int.tmod_eq_emod_of_nonneg om];have h:((n:Int)%32).toNat=n%32:=by omega
 rw[h];have:=Cy n (show 0<32 by decide);show min (n%32) 64=n%32;omega
theorem jM1(n:Nat):((2:Int)^(n%32))=((2^(n%32):Nat):Int):=by rw[Int.natCast_pow];rfl
theorem lf_w{l:List Nat}{n:Nat}(x:Lf l n)(hg:Lg l):IntKind.u64.wrap (IntKind.u64.wrap ((l.getD x.k 0:Nat):Int)*2^min (Int.tmod (n:Int) 32).toNat IntKind.u64.bits)=((x.w:Nat):Int):=by
 have h1:=qD hg x.k;have h2:=lf_w_lt n h1;rw[xU1,jM1,w64 (n:=l.getD x.k 0) om,<-Int.natCast_mul,w64 h2];rfl
theorem lf_o{l:List Nat}{n:Nat}(x:Lf l n):bOr .u32 (IntKind.u32.wrap ((x.w:Nat):Int)) ((x.c:Nat):Int)=((x.w%4294967296+x.c:Nat):Int):=by
 have hP:=P_le n;have hc:=x.hc;rw[lo32 rfl];show IntKind.u32.wrap ((BitVec.ofInt 32 ((x.w%4294967296:Nat):Int)|||BitVec.ofInt 32 ((x.c:Nat):Int)).toNat:Int)=_;rw[BitVec.ofInt_natCast,BitVec.ofInt_natCast,BitVec.toNat_or,BitVec.toNat_ofNat,BitVec.toNat_ofNat,Ea (Cy _ de),Ea (show x.c<2^32 by omega)];unfold Lf.w;rw[lf_or hc,w32n (gG1 hc)]
theorem lf_c{l:List Nat}{n:Nat}(x:Lf l n)(hg:Lg l):IntKind.u32.wrap (Int.fdiv ((x.w:Nat):Int) (2^min (Int.toNat 32) IntKind.u64.bits))=((x.w/4294967296:Nat):Int):=by
 have h1:=gH1 n (qD hg x.k);have hP:=P_le n;rw[hi32 rfl,w32n (by unfold Lf.w;omega)]
theorem td32(n:Nat):Int.tdiv (n:Int) 32=((n/32:Nat):Int):=by rw[Int.tdiv_eq_ediv_of_nonneg (by omega)];rfl
theorem vU1{P:Program}{E:Pn}{K:DS->Prop}{p:Prop}{r:Out}(hr:r.sat P E K)(hp:p:=by first|(rw[Int.tmod_eq_emod_of_nonneg (by omega)];omega)|exact Ew):(Out.need p r).sat P E K:=⟨hp,hr⟩
theorem natLeft_ok(a n:Nat)(ha:(lim a).length<=100000)(hn:n<=1000000):Fx 269 [usD (lim a),.v (.int .i64 n)] (usD (lim (a*2^n))):=by
 have htd:=td32 n;refine yF zJ Tryz.func269 rfl rfl rfl rfl rfl rfl ?_;intros;refine zK 100 ?_;refine zB (zE zJ [1018] 200 rfl ?_);repeat(first|refine zH ?_|refine zT (by first|(rw[td32];omega)|(simp only[td32];omega)|exact⟨by decide,by rw[td32];exact ini om om⟩|(rw[td32];exact ini om om)|(simp only[td32];exact ini om om)|(simp only[td32];refine⟨?_,?_⟩<;>omega)|exact Ew) ?_)
 refine zC (zA ?_);refine yK [0,1] [] 210 [(5,.mo 108 (n/32))] [(108,.mrow 100 1 (.map (List.replicate (n/32) 0) uD 0))] ?_;refine⟨⟨⟨Sub.mo (by rw[td32];omega),yG⟩,⟨SubO.mr (by rw[yX1,td32];congr 3),yE⟩,rfl,rfl⟩,?_⟩;refine jC 108 rfl (by repeat(first|exact trivial|exact(List.length_replicate).symm|refine⟨?_,?_⟩)) (by repeat(first|exact trivial|refine⟨?_,?_⟩)) ?_;refine zK 300 ?_;refine zB (zK 400 ?_);refine zO ?_;refine yC (ι:=Lf (lim a) n) [1,19,20] [] 450 (fun x=>[(21,.v (.int .i64 (x.k:Nat))),(6,.v (.int .u32 (x.c:Nat))),(5,.own 108 1 (x.o.map uD))]) (fun x=>[(108,.row 100 1 (x.o.map uD).length)]) (fun x=>(lim a).length-x.k) (Lf.start _ _) ?_;refine⟨⟨yG,yE,rfl,rfl⟩,fun x=>?_⟩;have hk:=x.le;have hlo:=x.lo;have hc1:=x.hc;have hP:=P_le n;have ew:=lf_w x (yX a);have eo:=lf_o x;have ec:=lf_c x (yX a);refine zK 500 ?_;refine zB (zY (fun c4=>?_) (fun c4=>?_))
 ·
  refine zL (zA (zB (zO (zK 600 ?_))));refine zB (zE zJ [] 700 rfl ?_);repeat(first|refine zH ?_|refine vU1 ?_)
  refine zC (zA (zK 800 ?_));refine yM zJ [] 900 ?_;refine zN (zA (yM zJ [] 1000 ?_));exact zS (x.next (yX a) om) ⟨⟨u21 (by show(x.k:Int)+1=((x.k+1:Nat):Int);omega),u21 (by(try simp only[Ah]);rw[ew];exact ec),Sub.own (vW (by(try simp only[Ah]);rw[ew];exact eo)),yG⟩,(by repeat(first|exact trivial|exact u15 rfl|exact⟨rfl,rfl,by show _=(List.map uD (x.o++_)).length;simp⟩|refine⟨?_,?_⟩)),rfl,rfl⟩ (by show(lim a).length-(x.k+1)<(lim a).length-x.k;omega)
 ·
  refine yD (yA (yB (zZ (zA ?_))));refine zB (zE zJ [] 1100 rfl ?_);refine zF ?_;refine zQ _ ((jN (x.o++[x.c]) (x.lg.snoc om) (by simp;omega)).args ⟨SubP.ownSl (vW rfl),trivial⟩) rfl ?_;refine zf (zA (zM ?_));have e:=(x.fin om).1;rw[vG]at e;exact u4 rfl (u9 (by rw[e]))
theorem or64r{h l:Nat}(hh:h<4294967296)(hl:l<4294967296):bOr .u64 (IntKind.u64.wrap (l:Int)) (IntKind.u64.wrap (IntKind.u64.wrap (h:Int)*2^min (Int.toNat 32) IntKind.u64.bits))=((l+4294967296*h:Nat):Int):=by
 have e:=or64 hh hl;rw[show l+4294967296*h=h*4294967296+l by omega,<-e];unfold bOr;rw[BitVec.or_comm]
theorem rg_T{l:List Nat}{n:Nat}(x:Rg l n)(hg:Lg l):bOr .u64 (IntKind.u64.wrap ((l.getD (n/32+x.k) 0:Nat):Int)) (IntKind.u64.wrap (IntKind.u64.wrap ((l.getD (n/32+x.k+1) 0:Nat):Int)*2^min (Int.toNat 32) IntKind.u64.bits))=((x.w:Nat):Int):=by
 rw[or64r (qD hg _) (qD hg _)];rfl
theorem rg_F{l:List Nat}{n:Nat}(x:Rg l n)(hg:Lg l)(h:l.length<=n/32+x.k+1):IntKind.u64.wrap ((l.getD (n/32+x.k) 0:Nat):Int)=((x.w:Nat):Int):=by
 have h1:=qD hg (n/32+x.k);unfold Rg.w;rw[uC h,w64 om];simp
theorem rg_l{n w:Nat}:IntKind.u32.wrap (Int.fdiv ((w:Nat):Int) (2^min (Int.tmod (n:Int) 32).toNat IntKind.u64.bits))=((w/2^(n%32)%4294967296:Nat):Int):=by
 rw[xU1,tW (jM1 n),lo32 rfl]
theorem natRight_ok(a n:Nat)(ha:(lim a).length<=100000)(hn:n<=1000000):Fx 271 [usD (lim a),.v (.int .i64 n)] (usD (lim (a/2^n))):=by
 refine yF zJ Tryz.func271 rfl rfl rfl rfl rfl rfl ?_;intros;refine zK 100 ?_;refine zK 200 ?_;refine yZ 5 100 1 rfl ?_;refine zB ?_;refine zB (zE zJ [] 300 rfl ?_);repeat(first|refine zH ?_|refine zT (by first|exact⟨by decide,by rw[td32];exact ini om om⟩|(rw[td32];exact ini om om)|exact Ew) ?_)
 refine zC (zA (zO ?_));refine yC (ι:=Rg (lim a) n) [0,1] [] 350 (fun x=>[(6,.v (.int .i64 (n/32+x.k:Nat))),(5,.own 200 1 (x.o.map uD))]) (fun x=>[(200,.row 100 1 (x.o.map uD).length)]) (fun x=>(lim a).length-(n/32+x.k)) (Rg.start _ _) ?_;refine⟨⟨⟨u21 (by rw[td32];rfl),Sub.own rfl,yG⟩,yE,rfl,rfl⟩,fun x=>?_⟩;have hk:=x.le;have hlo:=x.lo;refine zB (zK 400 ?_);refine zY (fun c3=>?_) (fun c3=>?_)
 ·
  refine zL (zA (zB (zO (zK 600 ?_))));refine zB (zK 700 ?_);refine zY (fun c6=>?_) (fun c6=>?_)
  ·
   refine yM zJ [] 800 ?_;refine zA ?_;refine zE zJ [] 900 rfl ?_;repeat(first|refine zH ?_|refine vU1 ?_)
   refine zC (zN (zA (yM zJ [] 1000 ?_)));have hj:(((n/32+x.k:Nat):Int)+1).toNat=n/32+x.k+1:=by omega
   have e:=rg_T x (yX a);exact zS (x.next (yX a) om) ⟨⟨u21 (by show((n/32+x.k:Nat):Int)+1=((n/32+(x.k+1):Nat):Int);omega),Sub.own (vW (by(try simp only[hj,Ah]);rw[e];exact rg_l)),yG⟩,(by repeat(first|exact trivial|exact u15 rfl|exact⟨rfl,rfl,by show _=(List.map uD (x.o++_)).length;simp⟩|refine⟨?_,?_⟩)),rfl,rfl⟩ (by show(lim a).length-(n/32+(x.k+1))<(lim a).length-(n/32+x.k);omega)
  ·
   refine zL (zA ?_);refine zE zJ [] 900 rfl ?_;repeat(first|refine zH ?_|refine vU1 ?_)
   refine zC (zN (zA (yM zJ [] 1000 ?_)));have hj:(((n/32+x.k:Nat):Int)+1).toNat=n/32+x.k+1:=by omega
   have e:=rg_F x (yX a) om;exact zS (x.next (yX a) om) ⟨⟨u21 (by show((n/32+x.k:Nat):Int)+1=((n/32+(x.k+1):Nat):Int);omega),Sub.own (vW (by(try simp only[hj,Ah]);rw[e];exact rg_l)),yG⟩,(by repeat(first|exact trivial|exact u15 rfl|exact⟨rfl,rfl,by show _=(List.map uD (x.o++_)).length;simp⟩|refine⟨?_,?_⟩)),rfl,rfl⟩ (by show(lim a).length-(n/32+(x.k+1))<(lim a).length-(n/32+x.k);omega)
 ·
  refine yD (yA (yB (zZ (zA ?_))));refine zB (zE zJ [] 1000 rfl ?_);refine zF ?_;refine zQ _ ((jN x.o x.lg om).args ⟨SubP.ownSl rfl,trivial⟩) rfl ?_;refine zf (zA (zM ?_));have e:=x.fin (yX a) om;rw[vG]at e;exact u4 rfl (u9 (by rw[e]))
variable{md me:Bool}
theorem cmpN_neg(x y:Nat):cmpN x y<0↔x<y:=by
 unfold cmpN;split
 ·exact⟨fun _=>by assumption,fun _=>by decide⟩
 ·constructor
  ·intro h;split at h<;>exact absurd h de
  ·intro h;contradiction
theorem lim_add600{x y:Nat}(hx:(lim x).length<=128)(hy:(lim y).length<=128):(lim (x+y)).length<=600:=by
 have h1:=Bu (pG x) (Bg de hx);have h2:=Bu (pG y) (Bg de hy);have h3:x+y<4294967296^129:=by
  rw[Bx];generalize 4294967296^128=B at*;omega
 have:=qF h3;omega
theorem lim_mul600{x y:Nat}(hx:(lim x).length<=128)(hy:(lim y).length<=128):(lim (x*y)).length<=600:=by
 have h1:=Bu (pG x) (Bg de hx);have h2:=Bu (pG y) (Bg de hy);have h3:x*y<4294967296^(128+128):=by
  rw[El];exact Nat.mul_lt_mul'' h1 h2
 have:=qF h3;omega
def plSg(s:Bool)(x:Nat)(t:Bool)(y:Nat):Bool:=if s=t then s else if x<y then t else s
def plN(s:Bool)(x:Nat)(t:Bool)(y:Nat):Nat:=if s=t then x+y else if x<y then y-x else x-y
theorem plZ(s t:Bool)(x y:Nat):ZI (plSg s x t y) (plN s x t y)=ZI s x+ZI t y:=by
 unfold plSg plN;by_cases h:s=t
 ·subst h;rw[Ab rfl,Ab rfl]
  cases s<;>unfold ZI<;>simp<;>omega
 ·rw[Aa h,Aa h];by_cases h2:x<y
  ·rw[Ab h2,Ab h2]
   cases s<;>cases t<;>unfold ZI<;>simp at* <;>omega
  ·rw[Aa h2,Aa h2]
   cases s<;>cases t<;>unfold ZI<;>simp at* <;>omega
abbrev zV(z:Int):List D:=iV (decide (z<0),lim z.natAbs)
theorem sg_z{b:Bool}{n:Nat}(h:(lim n).length<=128):sgD b (lim n)= .tup [.agg (zV (ZI b n)),faD 0 0]:=by
 rw[<-jN1 h,lim_len];have e1:(ZI b n).natAbs=n:=by cases b<;>unfold ZI<;>simp
 have e2:(b&&decide (0<n))=decide (ZI b n<0):=by
  cases b
  ·unfold ZI;simp
  ·unfold ZI;simp
 rw[zV,e1,e2]
theorem zOk{z:Int}(h:(lim z.natAbs).length<=128):uK (decide (z<0)) (lim z.natAbs)=true:=by
 unfold uK;rw[Aj,Cl,Aj,Aj,Ao,Ao,Ao,Ao];refine⟨h,?_⟩;rcases Cb (lim z.natAbs).length with h0|h0
 ·refine Or.inl ⟨h0,?_⟩;have h1:=lim_nil.1 (Bf h0);have h2:z=0:=by omega
  subst h2;rfl
 ·exact Or.inr ⟨h0,jX0 h0⟩
theorem zOks{a b:Int}(ha:(lim a.natAbs).length<=128)(hb:(lim b.natAbs).length<=128):∀k<[(decide (a<0),lim a.natAbs),(decide (b<0),lim b.natAbs)].length,uK ([(decide (a<0),lim a.natAbs),(decide (b<0),lim b.natAbs)].getD k (false,[])).1 ([(decide (a<0),lim a.natAbs),(decide (b<0),lim b.natAbs)].getD k (false,[])).2=true/\([(decide (a<0),lim a.natAbs),(decide (b<0),lim b.natAbs)].getD k (false,[])).2.length<=2000000:=by
 intro k hk;rcases k with _|_|k
 ·exact⟨zOk ha,by show(lim a.natAbs).length<=2000000;omega⟩
 ·exact⟨zOk hb,by show(lim b.natAbs).length<=2000000;omega⟩
 ·exact absurd hk (by simp)
theorem ZI_not(b:Int):ZI (!decide (b<0)) b.natAbs= -b:=by
 unfold ZI;by_cases h:b<0
 ·simp[h];omega
 ·simp[h];omega
theorem vC1(q:Bool)(n:Nat):(ZI q n).natAbs=n:=by cases q<;>unfold ZI<;>simp
theorem ZI_mul(s t:Bool)(x y:Nat):ZI (!(s==t)) (x*y)=ZI s x*ZI t y:=by
 cases s<;>cases t<;>unfold ZI<;>simp[Int.neg_mul,Int.mul_neg]
theorem mulZ(a b:Int):ZI (!(decide (a<0)==decide (b<0))) (a.natAbs*b.natAbs)=a*b:=by rw[ZI_mul,yC0,yC0]
theorem qE0(s t:Bool)(x y:Nat)(hx:(lim x).length<=128)(hy:(lim y).length<=128):Fx 220 [.agg (iV (s,lim x)),.agg (iV (t,lim y))] (sgD (plSg s x t y) (lim (plN s x t y))):=by
 have hcm:=cmpN_neg x y;refine yF zJ Tryz.func220 rfl rfl rfl rfl rfl rfl ?_;intros;refine zK 100 ?_;refine zB (zK 200 ?_);refine zY (fun c1=>?_) (fun c1=>?_)
 ·
  refine zB (zE zJ [] 300 rfl ?_);refine zF ?_;refine zQ _ (wI0 _ _ om om (lim_add600 hx hy)) rfl ?_;refine zf (zA ?_);refine zB (zE zJ [] 400 rfl ?_);refine zF ?_;refine zQ _ (vU _ _) rfl ?_;refine zf (zA (zM (zP ?_)));have hst:s=t:=by simpa using c1
  exact u4 rfl (u9 (by rw[plSg,plN,Ab hst,Ab hst];rfl))
 ·
  refine zL (zA (zB ?_));refine zB (zE zJ [] 500 rfl ?_);refine zF ?_;refine zQ _ (wH0 _ _ om om) rfl ?_;refine zF ?_;refine zC (zA (zK 600 ?_));refine zY (fun c5=>?_) (fun c5=>?_)
  ·
   refine yM zJ [] 700 ?_;refine zA ?_;refine zB (zE zJ [] 800 rfl ?_);refine zF ?_;refine zQ _ (zC0 _ _ om om om) rfl ?_;refine zf (zA ?_);refine zB (zE zJ [] 900 rfl ?_);refine zF ?_;refine zQ _ (vU _ _) rfl ?_;refine zf (zA (zM ?_));have hst:¬s=t:=by simpa using c1
   by_cases hxy:x<y
   ·first|(exact absurd hxy (by omega))|exact u4 rfl (u9 (by rw[plSg,plN,Aa hst,Aa hst,Ab hxy,Ab hxy];rfl))
   ·first|(exact absurd hxy (by omega))|exact u4 rfl (u9 (by rw[plSg,plN,Aa hst,Aa hst,Aa hxy,Aa hxy];rfl))
  ·
   refine zL (zA ?_);refine zB (zE zJ [] 800 rfl ?_);refine zF ?_;refine zQ _ (zC0 _ _ om om om) rfl ?_;refine zf (zA ?_);refine zB (zE zJ [] 900 rfl ?_);refine zF ?_;refine zQ _ (vU _ _) rfl ?_;refine zf (zA (zM ?_));have hst:¬s=t:=by simpa using c1
   by_cases hxy:x<y
   ·first|(exact absurd hxy (by omega))|exact u4 rfl (u9 (by rw[plSg,plN,Aa hst,Aa hst,Ab hxy,Ab hxy];rfl))
   ·first|(exact absurd hxy (by omega))|exact u4 rfl (u9 (by rw[plSg,plN,Aa hst,Aa hst,Aa hxy,Aa hxy];rfl))
theorem intAdd_ok(a b:Int)(ha:(lim a.natAbs).length<=128)(hb:(lim b.natAbs).length<=128)(hab:(lim (a+b).natAbs).length<=128):Fx 201 [.agg (zV a),.agg (zV b)] (.tup [.agg (zV (a+b)),faD 0 0]):=by
 have e:=plZ (decide (a<0)) (decide (b<0)) a.natAbs b.natAbs;rw[yC0,yC0]at e;have e2:(ZI (plSg (decide (a<0)) a.natAbs (decide (b<0)) b.natAbs) (plN (decide (a<0)) a.natAbs (decide (b<0)) b.natAbs)).natAbs=plN (decide (a<0)) a.natAbs (decide (b<0)) b.natAbs:=by generalize plSg (decide (a<0)) a.natAbs (decide (b<0)) b.natAbs=q;cases q<;>unfold ZI<;>simp
 rw[e]at e2;refine yF zJ Tryz.func201 rfl rfl rfl rfl rfl rfl ?_;intros;refine zK 100 ?_;refine zB ?_;refine zB (zE zJ [] 200 rfl ?_);refine zF ?_;refine zQ _ ((wK [(decide (a<0),lim a.natAbs),(decide (b<0),lim b.natAbs)] (zOks ha hb) (by show 2<=100;omega)).args ⟨u18 rfl,trivial⟩) rfl ?_;refine zF ?_;refine zC (zA (zK 300 ?_));refine zY (fun c2=>?_) (fun c2=>?_)
 ·
  exact absurd c2 de
 ·
  refine zL (zA ?_);refine zB (zE zJ [] 500 rfl ?_);refine zF ?_;refine zQ _ (qE0 (decide (a<0)) (decide (b<0)) a.natAbs b.natAbs ha hb) rfl ?_;refine zf (zA (zM ?_));exact u4 rfl (u9 (by have e3:=sg_z (b:=plSg (decide (a<0)) a.natAbs (decide (b<0)) b.natAbs) (n:=plN (decide (a<0)) a.natAbs (decide (b<0)) b.natAbs) (by rw[<-e2];exact hab);rw[e]at e3;exact e3))
theorem intSub_ok(a b:Int)(ha:(lim a.natAbs).length<=128)(hb:(lim b.natAbs).length<=128)(hab:(lim (a-b).natAbs).length<=128):Fx 218 [.agg (zV a),.agg (zV b)] (.tup [.agg (zV (a-b)),faD 0 0]):=by
 have e:=plZ (decide (a<0)) (!decide (b<0)) a.natAbs b.natAbs;rw[yC0,ZI_not,<-Int.sub_eq_add_neg]at e;have e2:=vC1 (plSg (decide (a<0)) a.natAbs (!decide (b<0)) b.natAbs) (plN (decide (a<0)) a.natAbs (!decide (b<0)) b.natAbs);rw[e]at e2;refine yF zJ Tryz.func218 rfl rfl rfl rfl rfl rfl ?_;intros;refine zK 100 ?_;refine zB ?_;refine zB (zE zJ [] 200 rfl ?_);refine zF ?_;refine zQ _ ((wK [(decide (a<0),lim a.natAbs),(decide (b<0),lim b.natAbs)] (zOks ha hb) (by show 2<=100;omega)).args ⟨u18 rfl,trivial⟩) rfl ?_;refine zF ?_;refine zC (zA (zK 300 ?_));refine zY (fun c2=>?_) (fun c2=>?_)
 ·
  exact absurd c2 de
 ·
  refine zL (zA ?_);refine zB (zE zJ [] 500 rfl ?_);refine zF ?_;refine zQ _ (qE0 (decide (a<0)) (!decide (b<0)) a.natAbs b.natAbs ha hb) rfl ?_;refine zf (zA (zM ?_));exact u4 rfl (u9 (by have e3:=sg_z (b:=plSg (decide (a<0)) a.natAbs (!decide (b<0)) b.natAbs) (n:=plN (decide (a<0)) a.natAbs (!decide (b<0)) b.natAbs) (by rw[<-e2];exact hab);rw[e]at e3;exact e3))
theorem intMul_ok(a b:Int)(ha:(lim a.natAbs).length<=128)(hb:(lim b.natAbs).length<=128)(hab:(lim (a*b).natAbs).length<=128):Fx 216 [.agg (zV a),.agg (zV b)] (.tup [.agg (zV (a*b)),faD 0 0]):=by
 have e:=mulZ a b;have e2:=vC1 (!(decide (a<0)==decide (b<0))) (a.natAbs*b.natAbs);rw[e]at e2;refine yF zJ Tryz.func216 rfl rfl rfl rfl rfl rfl ?_;intros;refine zK 100 ?_;refine zB ?_;refine zB (zE zJ [] 200 rfl ?_);refine zF ?_;refine zQ _ ((wK [(decide (a<0),lim a.natAbs),(decide (b<0),lim b.natAbs)] (zOks ha hb) (by show 2<=100;omega)).args ⟨u18 rfl,trivial⟩) rfl ?_;refine zF ?_;refine zC (zA (zK 300 ?_));refine zY (fun c2=>?_) (fun c2=>?_)
 ·
  exact absurd c2 de
 ·
  refine zL (zA ?_);refine zB (zE zJ [] 500 rfl ?_);refine zF ?_;refine zQ _ (natMul_ok _ _ om om (lim_mul600 ha hb)) rfl ?_;refine zf (zA ?_);refine zB (zE zJ [] 600 rfl ?_);refine zF ?_;refine zQ _ (vU _ _) rfl ?_;refine zf (zA (zM ?_));exact u4 rfl (u9 (by have e3:=sg_z (b:= !(decide (a<0)==decide (b<0))) (n:=a.natAbs*b.natAbs) (by rw[<-e2];exact hab);rw[e]at e3;exact e3))
variable{md me:Bool}
theorem cmpZ_of{a b:Int}:(a<0->b<0-> -cmpN a.natAbs b.natAbs=cmpZ a b)/\(a<0->¬b<0-> -1=cmpZ a b)/\(¬a<0->b<0->1=cmpZ a b)/\(¬a<0->¬b<0->cmpN a.natAbs b.natAbs=cmpZ a b):=by
 unfold cmpZ cmpN;refine⟨fun h1 h2=>?_,fun h1 h2=>?_,fun h1 h2=>?_,fun h1 h2=>?_⟩
 ·by_cases h:a<b
  ·rw[Ab h,Aa om,Ab om]
  ·rw[Aa h];by_cases h3:b<a
   ·rw[Ab h3,Ab om];rfl
   ·rw[Aa h3,Aa om,Aa om];rfl
 ·rw[Ab om]
 ·rw[Aa om,Ab om]
 ·by_cases h:a<b
  ·rw[Ab h,Ab om]
  ·rw[Aa h,Aa om];by_cases h3:b<a
   ·rw[Ab h3,Ab om]
   ·rw[Aa h3,Aa om]
theorem intCmp_ok(a b:Int)(ha:(lim a.natAbs).length<=128)(hb:(lim b.natAbs).length<=128):Fx 202 [.agg (zV a),.agg (zV b)] (.tup [.v (.int .i64 (cmpZ a b)),faD 0 0]):=by
 have hcz:= @cmpZ_of a b;have hcn: -1<=cmpN a.natAbs b.natAbs/\cmpN a.natAbs b.natAbs<=1:=by unfold cmpN;split;exact⟨by decide,by decide⟩;split<;>exact⟨by decide,by decide⟩
 refine yF zJ Tryz.func202 rfl rfl rfl rfl rfl rfl ?_;intros;refine zK 100 ?_;refine zB ?_;refine zB (zE zJ [] 200 rfl ?_);refine zF ?_;refine zQ _ ((wK [(decide (a<0),lim a.natAbs),(decide (b<0),lim b.natAbs)] (zOks ha hb) (by show 2<=100;omega)).args ⟨u18 rfl,trivial⟩) rfl ?_;refine zF ?_;refine zC (zA (zK 300 ?_));refine zY (fun c2=>?_) (fun c2=>?_)
 ·
  exact absurd c2 de
 ·
  refine zL (zA ?_);refine zB (zE zJ [] 500 rfl ?_);refine zF ?_;refine zQ _ (wH0 _ _ om om) rfl ?_;refine zF ?_;refine zC (zA (zB (zO (zK 600 ?_))));refine zY (fun c5=>?_) (fun c5=>?_)
  ·
   refine zK 700 ?_;refine zM (zR (zP ?_));have h:=hcz.1 om om;exact u4 rfl (u19 ⟨u10 (by rw[InI.wrap (ini om om),<-h];omega),u6 _,trivial⟩)
  ·
   refine zK 800 ?_;refine zY (fun c7=>?_) (fun c7=>?_)
   ·
    refine zK 900 ?_;refine zM (zR (zP ?_));exact u4 rfl (u19 ⟨u10 (by first|(have h:=hcz.1 (by first|omega|(clear hcz;simp_all;done)|(clear hcz;simp_all;omega)) (by first|omega|(clear hcz;simp_all;done)|(clear hcz;simp_all;omega));first|exact h|omega|(rw[<-h];simp;done))|exact hcz.2.1 (by first|omega|(clear hcz;simp_all;done)|(clear hcz;simp_all;omega)) (by first|omega|(clear hcz;simp_all;done)|(clear hcz;simp_all;omega))|exact hcz.2.2.1 (by first|omega|(clear hcz;simp_all;done)|(clear hcz;simp_all;omega)) (by first|omega|(clear hcz;simp_all;done)|(clear hcz;simp_all;omega))|exact hcz.2.2.2 (by first|omega|(clear hcz;simp_all;done)|(clear hcz;simp_all;omega)) (by first|omega|(clear hcz;simp_all;done)|(clear hcz;simp_all;omega))),u6 _,trivial⟩)
   ·
    refine zK 1000 ?_;refine zY (fun c9=>?_) (fun c9=>?_)
    ·
     refine zK 1100 ?_;refine zM (zR (zP ?_));exact u4 rfl (u19 ⟨u10 (by first|(have h:=hcz.1 (by first|omega|(clear hcz;simp_all;done)|(clear hcz;simp_all;omega)) (by first|omega|(clear hcz;simp_all;done)|(clear hcz;simp_all;omega));first|exact h|omega|(rw[<-h];simp;done))|exact hcz.2.1 (by first|omega|(clear hcz;simp_all;done)|(clear hcz;simp_all;omega)) (by first|omega|(clear hcz;simp_all;done)|(clear hcz;simp_all;omega))|exact hcz.2.2.1 (by first|omega|(clear hcz;simp_all;done)|(clear hcz;simp_all;omega)) (by first|omega|(clear hcz;simp_all;done)|(clear hcz;simp_all;omega))|exact hcz.2.2.2 (by first|omega|(clear hcz;simp_all;done)|(clear hcz;simp_all;omega)) (by first|omega|(clear hcz;simp_all;done)|(clear hcz;simp_all;omega))),u6 _,trivial⟩)
    ·
     refine zL (zN (zA (zK 1200 ?_)));refine zM ?_;exact u4 rfl (u19 ⟨u10 (by first|(have h:=hcz.1 (by first|omega|(clear hcz;simp_all;done)|(clear hcz;simp_all;omega)) (by first|omega|(clear hcz;simp_all;done)|(clear hcz;simp_all;omega));first|exact h|omega|(rw[<-h];simp;done))|exact hcz.2.1 (by first|omega|(clear hcz;simp_all;done)|(clear hcz;simp_all;omega)) (by first|omega|(clear hcz;simp_all;done)|(clear hcz;simp_all;omega))|exact hcz.2.2.1 (by first|omega|(clear hcz;simp_all;done)|(clear hcz;simp_all;omega)) (by first|omega|(clear hcz;simp_all;done)|(clear hcz;simp_all;omega))|exact hcz.2.2.2 (by first|omega|(clear hcz;simp_all;done)|(clear hcz;simp_all;omega)) (by first|omega|(clear hcz;simp_all;done)|(clear hcz;simp_all;omega))),u6 _,trivial⟩)
theorem cT(a:Int)(ha:(lim a.natAbs).length<=40):Fx 196 [.agg (zV a)] (.v (.bool true)):=by
 have hk:=zOk (z:=a) om;refine yF zJ Tryz.func196 rfl rfl rfl rfl rfl rfl ?_;intros;refine zK 100 ?_;refine zB (zE zJ [] 200 rfl ?_);refine zF ?_;refine zQ _ (mJ (decide (a<0)) (lim a.natAbs) om) rfl ?_;refine zf (zA (zM ?_));exact u4 rfl (u7 (by simp[hk];omega))
variable{md me:Bool}
theorem rgAt_ok(c i:Int):Fx 177 [.v (.int .i64 c),.v (.int .i64 i)] (faD c i):=by
 refine yF zJ Tryz.func177 rfl rfl rfl rfl rfl rfl ?_;intros;refine zK 100 ?_;refine zK 200 ?_;refine zM ?_;exact u4 rfl (u6 _)
theorem jK0(a b:Int)(ha:(lim a.natAbs).length<=128)(hb:(lim b.natAbs).length<=128)(hab:(lim (a+b).natAbs).length<=128):Fx 180 [.agg (zV a),.agg (zV b)] (.agg (zV (a+b))):=by
 refine yF zJ Tryz.func180 rfl rfl rfl rfl rfl rfl ?_;intros;refine zK 100 ?_;refine zB (zE zJ [] 200 rfl ?_);refine zF ?_;refine zQ _ (intAdd_ok a b ha hb hab) rfl ?_;refine zF ?_;refine zC (zA (zK 300 ?_));refine zM ?_;exact u4 rfl (u6 _)
theorem tN(a b:Int)(ha:(lim a.natAbs).length<=128)(hb:(lim b.natAbs).length<=128)(hab:(lim (a-b).natAbs).length<=128):Fx 200 [.agg (zV a),.agg (zV b)] (.agg (zV (a-b))):=by
 refine yF zJ Tryz.func200 rfl rfl rfl rfl rfl rfl ?_;intros;refine zK 100 ?_;refine zB (zE zJ [] 200 rfl ?_);refine zF ?_;refine zQ _ (intSub_ok a b ha hb hab) rfl ?_;refine zF ?_;refine zC (zA (zK 300 ?_));refine zM ?_;exact u4 rfl (u6 _)
theorem mV0(a b:Int)(ha:(lim a.natAbs).length<=128)(hb:(lim b.natAbs).length<=128)(hab:(lim (a*b).natAbs).length<=128):Fx 197 [.agg (zV a),.agg (zV b)] (.agg (zV (a*b))):=by
 refine yF zJ Tryz.func197 rfl rfl rfl rfl rfl rfl ?_;intros;refine zK 100 ?_;refine zB (zE zJ [] 200 rfl ?_);refine zF ?_;refine zQ _ (intMul_ok a b ha hb hab) rfl ?_;refine zF ?_;refine zC (zA (zK 300 ?_));refine zM ?_;exact u4 rfl (u6 _)
theorem cS(a b:Int)(ha:(lim a.natAbs).length<=128)(hb:(lim b.natAbs).length<=128):Fx 181 [.agg (zV a),.agg (zV b)] (.v (.bool (decide (a<b)))):=by
 refine yF zJ Tryz.func181 rfl rfl rfl rfl rfl rfl ?_;intros;refine zK 100 ?_;refine zB (zE zJ [] 200 rfl ?_);refine zF ?_;refine zQ _ (intCmp_ok a b ha hb) rfl ?_;refine zF ?_;refine zC (zA (zK 300 ?_));refine zM ?_;exact u4 rfl (u7 (by unfold cmpZ;split<;>(try split)<;>simp_all<;>omega))
abbrev rgD(a b c:Int):List D:=[.v (.bool (decide (a<0))),usD (lim a.natAbs),.v (.bool (decide (b<0))),usD (lim b.natAbs),.v (.bool (decide (c<0))),usD (lim c.natAbs)]
theorem rgValid_ok(a b c:Int)(ha:(lim a.natAbs).length<=40)(hb:(lim b.natAbs).length<=40)(hc:(lim c.natAbs).length<=40)(h0:0<(lim c.natAbs).length):Fx 176 [.agg (rgD a b c)] (.v (.bool true)):=by
 refine yF zJ Tryz.func176 rfl rfl rfl rfl rfl rfl ?_;intros;refine zK 100 ?_;refine zB (zE zJ [] 200 rfl ?_);refine zF ?_;refine zQ _ (cT a ha) rfl ?_;refine zF ?_;refine yN _ (fun hg6=>cT _ ao) rfl ?_;refine zF ?_;refine yN _ (fun hg11=>cT _ ao) rfl ?_;refine zf (zA (zM ?_));exact u4 rfl (u7 (by simp_all))
structure KD(U V H u2 v1 v2:Nat)where
 E:Nat
 u':Nat
 v':Nat
 hU:U=H*(4294967296*E)+u2*E+u'
 hV:V=v1*(4294967296*E)+v2*E+v'
 lu:u'<E
 lv:v'<E
 lu2:u2<4294967296
 lv2:v2<4294967296
 lv1:0<v1
 lt:U<V*4294967296
theorem pN0{g v1 r H:Nat}(e:g*v1+r=H)(E:Nat):H*(4294967296*E)=g*v1*(4294967296*E)+r*4294967296*E:=by rw[<-e,Bm,Bp r]
section
variable{U V H u2 v1 v2:Nat}(K:KD U V H u2 v1 v2)
include K
theorem KD.V_pos:0<V:=by
 have h1:=K.lv;have h2:=K.lv1;have h3:0<v1*(4294967296*K.E):=Nat.mul_pos h2 om;have:=K.hV;omega
theorem KD.V_lt:V<(v1+1)*(4294967296*K.E):=by
 have h1:=K.hV;have h2:(v2+1)*K.E<=4294967296*K.E:=Bk _ K.lv2;have h3:=K.lv;rw[Bm]at h2⊢;omega
theorem KD.U_lt:U<(H+1)*(4294967296*K.E):=by
 have h1:=K.hU;have h2:(u2+1)*K.E<=4294967296*K.E:=Bk _ K.lu2;have h3:=K.lu;rw[Bm]at h2⊢;omega
theorem KD.H_lt:H<(v1+1)*4294967296:=by
 have h1:=K.V_lt;have h2:=K.lt;have h3:V*4294967296<(v1+1)*(4294967296*K.E)*4294967296:=by omega
 have h4:H*(4294967296*K.E)<(v1+1)*4294967296*(4294967296*K.E):=by
  have:=K.hU;rw[Nat.mul_right_comm (v1+1)];omega
 exact Nat.lt_of_mul_lt_mul_right h4
theorem KD.q_lt:U/V<4294967296:=(Du K.V_pos).2 (by rw[Ax];exact K.lt)
theorem KD.q_le:U/V<=H/v1:=by
 rw[Nat.le_div_iff_mul_le K.lv1];have h1:U/V*V<=U:=Nat.div_mul_le_self U V;have h2:=K.U_lt;have h3:U/V*v1*(4294967296*K.E)<=U/V*V:=by
  rw[Bp];refine Cx _ ?_;have:=K.hV;omega
 exact Nat.le_of_lt_succ (Nat.lt_of_mul_lt_mul_right (Nat.lt_of_le_of_lt (Au h3 h1) h2))
theorem KD.down{g r:Nat}(e:g*v1+r=H)(hq:U/V<=g)(h:4294967296<=g\/r*4294967296+u2<g*v2):U/V<g:=by
 rcases Br (U/V) g with h0|h0
 ·exact h0
 ·exfalso;have hb:=K.q_lt;have h:=h.resolve_left om;have h1:g*V<=U:=Au (Bk _ h0) (Nat.div_mul_le_self U V);rw[K.hV,Bt,Bt,<-Bp,<-Bp g v2]at h1;have h2:=K.hU;have h3:=K.lu;have h4:=pN0 e K.E;have h5:(r*4294967296+u2+1)*K.E<=g*v2*K.E:=Bk _ h;rw[Bm,Bm]at h5;omega
theorem KD.fin{g r:Nat}(e:g*v1+r=H)(hq:U/V<=g)(h:4294967296<=r\/g<4294967296/\g*v2<=r*4294967296+u2):g<4294967296/\g<=U/V+1:=by
 have hU:=K.hU;have h4:=pN0 e K.E;have hV:g*V=g*v1*(4294967296*K.E)+g*v2*K.E+g*K.v':=by
  conv=>lhs;rw[K.hV]
  rw[Bt,Bt,<-Bp,<-Bp g v2]
 have hg:g<4294967296:=by
  rcases h with h|h
  ·have h1:=K.H_lt;rw[Bm]at h1;have h2:g*v1<4294967296*v1:=by rw[Ax 4294967296];omega
   exact Nat.lt_of_mul_lt_mul_right h2
  ·exact h.1
 refine⟨hg,?_⟩;have hv':g*K.v'<=4294967296*K.E:=Nat.mul_le_mul (Dl hg) (Dl K.lv);have hVp:=K.V_pos;rcases h with h|h
 ·have h1:(v2*K.E+K.v')<=4294967296*K.E:=by
   have h2:(v2+1)*K.E<=4294967296*K.E:=Bk _ K.lv2;have h3:=K.lv;rw[Bm]at h2;omega
  have h2:g*(v2*K.E+K.v')<=r*(4294967296*K.E):=Nat.mul_le_mul om h1;rw[Bt,<-Bp,<-Bp]at h2;have:g*V<=U:=by omega
  have:=(Nat.le_div_iff_mul_le hVp).2 this;omega
 ·have h1:g*v2*K.E<=(r*4294967296+u2)*K.E:=Bk _ h.2;rw[Bm]at h1;have h2:4294967296*K.E<=V:=by
   have h3:1*(4294967296*K.E)<=v1*(4294967296*K.E):=Bk _ K.lv1;have:=K.hV;omega
  have h3:g*V<=U+V:=by omega
  have h4:(g-1)*V<=U:=by rw[Nat.sub_mul];omega
  have:=(Nat.le_div_iff_mul_le hVp).2 h4;omega
end
theorem kd_lists{u v:List Nat}{n:Nat}(hu:u.length=n+1)(hv:v.length=n)(hn:2<=n)(gu:Lg u)(gv:Lg v)(ht:0<v.getD (n-1) 0)(h:VL u<VL v*4294967296):
  Nonempty (KD (VL u) (VL v) (u.getD n 0*4294967296+u.getD (n-1) 0) (u.getD (n-2) 0) (v.getD (n-1) 0) (v.getD (n-2) 0)):=by
 obtain⟨m,rfl⟩:∃m,n=m+2:=⟨n-2,by omega⟩;rw[show m+2-1=m+1 by omega,show m+2-2=m by omega]at*;have t1:=bF0 hu;have t2:=qM u (m+1);have t3:=qM u m;have s1:=bF0 (l:=v) (n:=m+1) hv;have s2:=qM v m;have lu:=L_lt (gu.take m);have lv:=L_lt (gv.take m);rw[At,Dj om]at lu lv;have p1:4294967296^(m+1)=4294967296*4294967296^m:=by rw[Bx,Ax]
 have p2:4294967296^(m+2)=4294967296*(4294967296*4294967296^m):=by rw[Bx,Bx,Ax,Ax (4294967296^m)]
 rw[p2]at t1;rw[p1]at t2 s1;refine⟨⟨4294967296^m,VL (u.take m),VL (v.take m),?_,?_,lu,lv,qD gu _,qD gv _,ht,h⟩⟩
 ·rw[t1,t2,t3,Bm,Ax (4294967296^m),Ax (u.getD (m+2) 0*4294967296),Ax (u.getD (m+1) 0)];have e:4294967296*(4294967296*4294967296^m)*u.getD (m+2) 0=4294967296*4294967296^m*(u.getD (m+2) 0*4294967296):=by
   rw[Ax (u.getD (m+2) 0),<-Bp (4294967296*4294967296^m),Ax 4294967296 (4294967296*4294967296^m)]
  omega
 ·rw[s1,s2,Ax (4294967296^m),Ax (v.getD (m+1) 0)];omega
structure Gu(U V H v1:Nat)where
 g:Nat
 r:Nat
 e:g*v1+r=H
 q:U/V<=g
 lr:r<4294967296
def Gu.start{U V H u2 v1 v2:Nat}(K:KD U V H u2 v1 v2)(h:v1<4294967296):Gu U V H v1:=⟨H/v1,H%v1,by rw[Ax];exact Dd H v1,K.q_le,Nat.lt_trans (Cy _ K.lv1) h⟩
theorem Gu.pos{U V H u2 v1 v2:Nat}(x:Gu U V H v1)(K:KD U V H u2 v1 v2)(h:4294967296<=x.g\/x.r*4294967296+u2<x.g*v2):U/V<=x.g-1/\0<x.g/\(x.g-1)*v1+(x.r+v1)=H:=by
 have h1:=K.down x.e x.q h;have h2:=x.e;have h0:0<x.g:=Nat.lt_of_le_of_lt (Ap _) h1;refine⟨Nat.le_sub_one_of_lt h1,h0,?_⟩;have h3:(x.g-1+1)*v1=(x.g-1)*v1+v1:=by rw[Bm,Nat.one_mul]
 rw[show x.g-1+1=x.g from Nat.sub_add_cancel h0]at h3;clear h1 h;omega
def Gu.next{U V H u2 v1 v2:Nat}(x:Gu U V H v1)(K:KD U V H u2 v1 v2)(h:4294967296<=x.g\/x.r*4294967296+u2<x.g*v2)(hr:x.r+v1<4294967296):Gu U V H v1:=⟨x.g-1,x.r+v1,(x.pos K h).2.2,(x.pos K h).1,hr⟩
theorem Gu.stop{U V H u2 v1 v2:Nat}(x:Gu U V H v1)(K:KD U V H u2 v1 v2)(h:4294967296<=x.g\/x.r*4294967296+u2<x.g*v2)(hr:4294967296<=x.r+v1):x.g-1<4294967296/\U/V<=x.g-1/\x.g-1<=U/V+1:=
 have h1:=K.fin (x.pos K h).2.2 (x.pos K h).1 (Or.inl hr)
 ⟨h1.1,(x.pos K h).1,h1.2⟩
theorem Gu.done{U V H u2 v1 v2:Nat}(x:Gu U V H v1)(K:KD U V H u2 v1 v2)(h:x.g<4294967296)(h2:x.g*v2<=x.r*4294967296+u2):x.g<4294967296/\U/V<=x.g/\x.g<=U/V+1:=
 have h1:=K.fin x.e x.q (Or.inr ⟨h,h2⟩)
 ⟨h1.1,x.q,h1.2⟩
structure SuD(u v:List Nat)(g:Nat)where
 k:Nat
 c:Nat
 b:Nat
 o:List Nat
 eq:VL o+g*VL (v.take k)=VL (u.take k)+(b+c)*4294967296^k
 lo:o.length=k
 lg:Lg o
 hc:c<4294967296
 hb:b<=1
 h0:v.length<k->c=0
 le:k<=u.length
def SuD.start(u v:List Nat)(g:Nat):SuD u v g:=⟨0,0,0,[],by simp[VL],rfl,Lg.nil,by decide,by decide,fun _=>rfl,Ap _⟩
def SuD.s{u v:List Nat}{g:Nat}(x:SuD u v g):Nat:=x.c+g*v.getD x.k 0
theorem SuD.s_lt{u v:List Nat}{g:Nat}(x:SuD u v g)(hg:g<4294967296)(gv:Lg v):x.s<18446744073709551616:=by
 have h1:=tR hg (qD gv x.k);have h3:=x.hc;unfold SuD.s;omega
theorem su_step{u v o:List Nat}{g k c b s y d:Nat}(h:VL o+g*VL (v.take k)=VL (u.take k)+(b+c)*4294967296^k)(ho:o.length=k)(hs:s=c+g*v.getD k 0)(hy:y+s%4294967296+b=u.getD k 0+4294967296*d):
  VL (o++[y])+g*VL (v.take (k+1))=VL (u.take (k+1))+(d+s/4294967296)*4294967296^(k+1):=by
 rw[mE,ho,qM u,qM v,Bx,Bt g];have e0:g*(4294967296^k*v.getD k 0)=4294967296^k*(g*v.getD k 0):=Nat.mul_left_comm _ _ _;rw[e0];generalize 4294967296^k=B at*;generalize g*v.getD k 0=M at*;generalize g*VL (v.take k)=R at*;have e:s=4294967296*(s/4294967296)+s%4294967296:=(Dd s 4294967296).symm;have e1:y+b+c+M=u.getD k 0+4294967296*(d+s/4294967296):=by omega
 have e2:B*y+B*b+B*c+B*M=B*u.getD k 0+B*(4294967296*(d+s/4294967296)):=by rw[<-Bt,<-Bt,<-Bt,e1,Bt]
 have e4:(d+s/4294967296)*(B*4294967296)=B*(4294967296*(d+s/4294967296)):=by rw[Ax,Bp]
 have e5:(b+c)*B=B*b+B*c:=by rw[Bm,Ax b,Ax c]
 omega
def SuD.next{u v:List Nat}{g:Nat}(x:SuD u v g)(gu:Lg u)(gv:Lg v)(hg:g<4294967296)(h:x.k<u.length):SuD u v g:=⟨x.k+1,x.s/4294967296,lsB (u.getD x.k 0) (x.s%4294967296) x.b,x.o++[lsD (u.getD x.k 0) (x.s%4294967296) x.b],su_step x.eq x.lo rfl (vZ1 (qD gu _) (Cy _ de) x.hb),by simp[x.lo],x.lg.snoc (vY1 _ _ _),by have:=x.s_lt hg gv;omega,jX1 _ _ _,fun h1=>by
 have h2:x.s=x.c:=by unfold SuD.s;rw[uC om];omega
 rw[h2];exact Er x.hc,h⟩
theorem SuD.fin{u v:List Nat}{g:Nat}(x:SuD u v g)(h:u.length<=x.k)(hl:v.length<u.length):VL x.o+g*VL v=VL u+x.b*4294967296^u.length/\x.o.length=u.length:=by
 have hk:=x.le;have e:x.k=u.length:=by omega
 have h1:=x.eq;rw[x.h0 om,e,Ak (Aq _),Ak om]at h1;exact⟨h1,by rw[x.lo,e]⟩
theorem dg_exact{u v:List Nat}{g:Nat}(x:SuD u v g)(h:u.length<=x.k)(hl:v.length<u.length)(hb:x.b=0)(hp:0<VL v)(hq:VL u/VL v<=g):g=VL u/VL v/\VL x.o=VL u%VL v:=by
 have h1:=(x.fin h hl).1;rw[hb]at h1;have h2:g*VL v<=VL u:=by omega
 have h3:=(Nat.le_div_iff_mul_le hp).2 h2;have e:g=VL u/VL v:=by omega
 refine⟨e,?_⟩;have h4:=Dd (VL u) (VL v);rw[<-e,Ax]at h4;omega
theorem ad_fin{w v:List Nat}{n:Nat}(x:PlL w v)(hw:w.length=n+1)(hv:v.length=n)(hk:x.k=n):VL (x.o++[(w.getD n 0+x.c)%4294967296])+(w.getD n 0+x.c)/4294967296*4294967296^(n+1)=VL w+VL v:=by
 have h1:=x.eq;rw[hk,Ak (l:=v) om]at h1;rw[mE,x.lo,hk,bF0 hw,Bx];generalize w.getD n 0=t at*;generalize x.c=c at*;generalize 4294967296^n=B at*;have e:=Dd (t+c) 4294967296;have e2:B*(t+c)=B*(4294967296*((t+c)/4294967296))+B*((t+c)%4294967296):=by rw[<-Bt,e]
 have e3:B*(t+c)=B*t+B*c:=Bt _ _ _;have e4:(t+c)/4294967296*(B*4294967296)=B*(4294967296*((t+c)/4294967296)):=by rw[Ax,Bp]
 have e5:c*B=B*c:=Ax _ _;omega
theorem dg_back{u v:List Nat}{g n:Nat}(x:SuD u v g)(hu:u.length=n+1)(hv:v.length=n)(h:u.length<=x.k)(gv:Lg v)(hb:x.b=1)(hp:0<VL v)(hq:g<=VL u/VL v+1)(y:PlL x.o v)(hk:y.k=n):
  0<g/\g-1=VL u/VL v/\VL (y.o++[(x.o.getD n 0+y.c)%4294967296])=VL u%VL v:=by
 obtain⟨h1,h2⟩:=x.fin h om;rw[hb,hu]at h1;have h3:=ad_fin y om hv hk;have h4:=L_lt x.lg;rw[h2,hu]at h4;have h5:Lg (y.o++[(x.o.getD n 0+y.c)%4294967296]):=y.lg.snoc (Cy _ de);have h6:=L_lt h5;rw[Af,y.lo,hk,Cg]at h6;have h7:VL u<g*VL v:=by omega
 have h8:VL u/VL v<g:=(Du hp).2 h7;have e:g=VL u/VL v+1:=Nat.le_antisymm hq h8;have h9:=Dd (VL u) (VL v);have h10:=Cy (VL u) hp;have h11:=L_lt gv;rw[hv]at h11;have h12:4294967296^n<=4294967296^(n+1):=Bg de om;refine⟨by rw[e];exact Nat.succ_pos _,by rw[e];exact Nat.add_sub_cancel _ _,?_⟩;have h13:g*VL v=VL v*(VL u/VL v)+VL v:=by rw[e,Bm,Nat.one_mul,Ax]
 generalize VL (y.o++[(x.o.getD n 0+y.c)%4294967296])=R at*;generalize (x.o.getD n 0+y.c)/4294967296=d at*;generalize 4294967296^(n+1)=B at*;generalize VL v*(VL u/VL v)=Q at*;generalize VL u%VL v=M at*;clear h7 h8 hq;have h14:R+d*B=M+B:=by omega
 have h15:d=1:=by
  rcases Br d 1 with h16|h16
  ·rw[show d=0 by omega]at h14;omega
  ·rcases Br d 2 with h17|h17
   ·omega
   ·have:2*B<=d*B:=Bk _ h17;omega
 rw[h15]at h14;omega
theorem win_V{U:List Nat}{j n V:Nat}(hg:Lg U)(hj:j+n+1<=U.length)(hV:V<=4294967296^n)(hlt:VL (U.drop (j+1))<V):
  VL ((U.drop j).take (n+1))=VL (U.drop j)/\VL ((U.drop j).take (n+1))<V*4294967296/\VL (U.drop (j+n+1))=0/\VL (U.drop j)=U.getD j 0+4294967296*VL (U.drop (j+1)):=by
 have h1:=vN U j;have h2:=qD hg j;have h3:=wP (U.drop j) (n+1) (by rw[Bq];omega);rw[List.drop_drop,<-Dy]at h3;have h4:VL (U.drop j)<V*4294967296:=by omega
 have h5:V*4294967296<=4294967296^(n+1):=by rw[Bx];exact Bk _ hV
 have h6:VL (U.drop (j+n+1))=0:=by
  rcases Cb (VL (U.drop (j+n+1)))with h|h
  ·exact h
  ·have:4294967296^(n+1)*1<=4294967296^(n+1)*VL (U.drop (j+n+1)):=Cx _ h;omega
 rw[h6,Nat.mul_zero,Cj]at h3;exact⟨h3.symm,by omega,h6,h1⟩
structure DvL(u v:List Nat)(m n:Nat)where
 k:Nat
 U:List Nat
 o:List Nat
 hU:U.length=m+n
 gU:Lg U
 ho:o.length=m
 go:Lg o
 low:U.take k=u.take k
 lt:VL (U.drop k)<VL v
 eq:VL (u.drop k)=VL (o.drop k)*VL v+VL (U.drop k)
 le:k<=m
def DvL.start{u v:List Nat}{m n:Nat}(hu:u.length=m+n)(gu:Lg u)(h:VL (u.drop m)<VL v):DvL u v m n:=
 ⟨m,u,List.replicate m 0,hu,gu,by simp,cB _,rfl,h,by rw[Bd (l:=List.replicate m 0) (by simp),xZ0,Nat.zero_mul,Co],Aq _⟩
theorem drop_ge_congr{u U:List Nat}{k j:Nat}(h:U.take k=u.take k)(hj:j<k):U.getD j 0=u.getD j 0:=by
 have:(U.take k)[j]?=(u.take k)[j]?:=by rw[h]
 rw[Df,Df,Ab hj,Ab hj]at this;rw[Ac,Ac,this]
section
variable{u v:List Nat}{m n:Nat}
def DvL.W(x:DvL u v m n):List Nat:=(x.U.drop (x.k-1)).take (n+1)
def DvL.q(x:DvL u v m n):Nat:=VL x.W/VL v
def DvL.R(x:DvL u v m n):List Nat:=x.U.take (x.k-1)++limN (n+1) (VL x.W%VL v)++x.U.drop (x.k-1+n+1)
theorem DvL.facts(x:DvL u v m n)(gv:Lg v)(hv:v.length=n)(h:0<x.k):VL x.W=VL (x.U.drop (x.k-1))/\VL x.W<VL v*4294967296/\VL (x.U.drop (x.k-1+n+1))=0/\VL (x.U.drop (x.k-1))=x.U.getD (x.k-1) 0+4294967296*VL (x.U.drop x.k)/\x.W.length=n+1/\Lg x.W/\x.q<4294967296:=by
 have h1:=x.le;have h2:=x.hU;have h3:=L_lt gv;rw[hv]at h3;have h4:x.k-1+1=x.k:=by omega
 have h5:=win_V (U:=x.U) (j:=x.k-1) (n:=n) (V:=VL v) x.gU om (Dl h3) (by rw[h4];exact x.lt);rw[h4]at h5;refine⟨h5.1,h5.2.1,h5.2.2.1,h5.2.2.2,by unfold DvL.W;rw[At,Bq];omega,fun y hy=>x.gU y (Do (Cn hy)),?_⟩;unfold DvL.q;have hp:0<VL v:=Nat.lt_of_le_of_lt (Ap _) x.lt;rw[Du hp,Ax];exact h5.2.1
theorem DvL.rlt(x:DvL u v m n)(gv:Lg v)(hv:v.length=n):VL x.W%VL v<4294967296^(n+1):=by
 have h3:=L_lt gv;rw[hv]at h3;have hp:0<VL v:=Nat.lt_of_le_of_lt (Ap _) x.lt;have h4:=Cy (VL x.W) hp;have h5:4294967296^n<=4294967296^(n+1):=Bg de om;omega
theorem DvL.Rd(x:DvL u v m n)(gv:Lg v)(hv:v.length=n)(h:0<x.k):x.R.length=m+n/\x.R.take (x.k-1)=u.take (x.k-1)/\VL (x.R.drop (x.k-1))=VL x.W%VL v/\Lg x.R:=by
 have h1:=x.le;have h2:=x.hU;obtain⟨f1,f2,f3,f4,f5,f6,f7⟩:=x.facts gv hv h;have ht:(x.U.take (x.k-1)).length=x.k-1:=by rw[At];omega
 refine⟨?_,?_,?_,?_⟩
 ·unfold DvL.R;rw[Af,Af,xZ,Bq,ht];omega
 ·unfold DvL.R;rw[Cr,Dv om,List.take_take,Nat.min_self];have:=x.low;have e:x.k-1=min (x.k-1) x.k:=by omega
  rw[e,<-List.take_take,this,List.take_take]
 ·unfold DvL.R;rw[Cr,List.drop_append,Bd om,ht,Nat.sub_self,Dm,Dn,vF0,f3,Nat.mul_zero,Cj,bA0 (x.rlt gv hv)]
 ·unfold DvL.R;intro y hy;rcases As.1 hy with hy|hy
  ·rcases As.1 hy with hy|hy
   ·exact x.gU y (Cn hy)
   ·exact dX _ _ y hy
  ·exact x.gU y (Do hy)
theorem dv_step{a b q V W Q R S:Nat}(h1:b=Q*V+S)(h2:a+4294967296*S=W)(hq:V*q+R=W):a+4294967296*b=(q+4294967296*Q)*V+R:=by
 rw[h1,Bt,Bm,Ax q V,Bp 4294967296 Q V];omega
def DvL.next(x:DvL u v m n)(gv:Lg v)(hv:v.length=n)(h:0<x.k):DvL u v m n:=
 ⟨x.k-1,x.R,x.o.set (x.k-1) x.q,(x.Rd gv hv h).1,(x.Rd gv hv h).2.2.2,by rw[Cu];exact x.ho,Lg.set x.go _ (x.facts gv hv h).2.2.2.2.2.2,(x.Rd gv hv h).2.1,by
  rw[(x.Rd gv hv h).2.2.1];exact Cy _ (Nat.lt_of_le_of_lt (Ap _) x.lt),by
  have h1:=x.le;have h2:=x.ho;obtain⟨f1,f2,f3,f4,f5,f6,f7⟩:=x.facts gv hv h;rw[(x.Rd gv hv h).2.2.1,vN u,vN (x.o.set (x.k-1) x.q),show x.k-1+1=x.k by omega,<-drop_ge_congr x.low (show x.k-1<x.k by omega)];have e1:(x.o.set (x.k-1) x.q).getD (x.k-1) 0=x.q:=by rw[Ac,List.getElem?_set_self (by omega)];rfl
  have e2:(x.o.set (x.k-1) x.q).drop x.k=x.o.drop x.k:=by rw[List.drop_set_of_lt (by omega)]
  rw[e1,e2];exact dv_step x.eq (by rw[<-f4,<-f1]) (Dd _ _),by have:=x.le;omega⟩
theorem DvL.fin(x:DvL u v m n)(h:x.k=0)(gv:Lg v)(hv:v.length=n):VL x.o=VL u/VL v/\VL (x.U.take n)=VL u%VL v:=by
 have h1:=x.eq;have h2:=x.lt;have h3:=x.hU;rw[h,Dm,Dm,Dm]at h1;rw[h,Dm]at h2;have hp:0<VL v:=Nat.lt_of_le_of_lt (Ap _) h2;have e1:VL u/VL v=VL x.o:=by
  rw[h1,Nat.add_comm,Nat.add_mul_div_right _ _ hp,Er h2,Co]
 have e2:VL u%VL v=VL x.U:=by
  rw[h1,Nat.add_comm,Nat.add_mul_mod_self_right,Ea h2]
 refine⟨e1.symm,?_⟩;rw[e2];have h4:=L_lt gv;rw[hv]at h4;have h5:=wP x.U n om;rcases Cb (VL (x.U.drop n))with h6|h6
 ·rw[h6,Nat.mul_zero,Cj]at h5;exact h5.symm
 ·have:4294967296^n*1<=4294967296^n*VL (x.U.drop n):=Cx _ h6;omega
end
theorem top_lt{a b s n m L:Nat}(ha:a<4294967296^L)(hm:m+n=L+1)(hn:0<n)(hs:2^s<=2147483648)(hv:2147483648*4294967296^(n-1)<=b):VL ((limN (L+1) (a*2^s)).drop m)<b:=by
 have hP:0<2^s:=Nat.pow_pos de;have h1:a*2^s<4294967296^L*2^s:=Nat.mul_lt_mul_of_pos_right ha hP;have h2:4294967296^L*2^s<=4294967296^(L+1):=by rw[Bx];exact Cx _ om
 rw[<-yQ1 (dX _ _),bA0 om,Du (Nat.pow_pos de)];refine Bu h1 ?_;have h3:4294967296^L=4294967296^(n-1)*4294967296^m:=by rw[<-El];congr 1;omega
 rw[h3,Nat.mul_right_comm];refine Bk _ ?_;rw[Ax];exact Au (Bk _ hs) hv
theorem sh_div(a b s:Nat):a*2^s/(b*2^s)=a/b:=Nat.mul_div_mul_right _ _ (Nat.pow_pos de)
theorem sh_mod(a b s:Nat):a*2^s%(b*2^s)/2^s=a%b:=by rw[Nat.mul_mod_mul_right,Nat.mul_div_cancel _ (Nat.pow_pos (by decide))]
end Go.Proofs.YtpmjepoceakikaaGreatDoor
