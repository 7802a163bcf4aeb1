/-Part 14 of the proof. -/
import Derived.Test.YtammfbdgjnkolaaGreatDoorM13
namespace Go.Proofs.YtammfbdgjnkolaaGreatDoor
open Go.RowKit
abbrev Fx:=Fn Tryz.prog
variable{md me:Bool}
def nD(n:Nat):List D:=[.v (.int .i64 n)]
def qK(n:Nat):D:= .sl false 1 (dig n) nD 0
structure Trm(l:List Nat)where
 r:List Nat
 dg:Dg r
 eq:V r=V l
 le:r.length<=l.length
theorem last_take{r:List Nat}(h:0<r.length)(h0:r.getD (r.length-1) 0=0):V (r.take (r.length-1))=V r:=by
 have h1:=jO r (r.length-1);rw[h0,show r.length-1+1=r.length by omega,Ai (Ar _)]at h1;omega
def Trm.next{l:List Nat}(x:Trm l)(h:0<x.r.length)(h0:x.r.getD (x.r.length-1) 0=0):Trm l:=⟨x.r.take (x.r.length-1),x.dg.take _,by rw[last_take h h0,x.eq],by have:=x.le;simp;omega⟩
theorem Trm.fin{l:List Nat}(x:Trm l)(h:0<x.r.length->x.r.getD (x.r.length-1) 0≠0):x.r=dig (V l):=by
 rw[<-x.eq];refine(dig_V x.dg fun hne=>?_).symm;have hp:0<x.r.length:=Db.2 hne;rw[Em,<-vM om];exact h hp
theorem tX0{α:Type}(r:List α):List.take (((r.length:Int)-1).toNat-Int.toNat 0) (List.drop (Int.toNat 0) r)=r.take (r.length-1):=by
 show List.take _ r=_;congr 1;simp
theorem bQ(r:List Nat):r.getD ((r.length:Int)-1).toNat 0=r.getD (r.length-1) 0:=by congr 1;omega
theorem uF(n i:Nat):(dig n).getD i 0<65536:=by
 rcases Br i (dig n).length with h|h
 ·rw[vM h];exact(bY n).at h
 ·rw[wB h];omega
theorem xA(l:List Nat)(hd:Dg l)(hl:l.length<=1000000000):Fx 189 [.sl false 1 l nD 0] (qK (V l)):=by
 refine yD zJ Tryz.func189 rfl rfl rfl rfl rfl rfl ?_;intros;refine zK 100 ?_;refine zB (zP ?_);refine yC (ι:=Trm l) [] [] 150 (fun x=>[(0,.sl false 1 x.r nD 0)]) (fun _=>[]) (fun x=>x.r.length) ⟨l,hd,rfl,Ar _⟩ ?_;refine⟨⟨yG,yF,rfl,rfl⟩,fun x=>?_⟩;have hk:=x.le;refine zB (zK 200 ?_);refine zZ (fun c1=>?_) (fun c1=>?_)
 ·
  refine zM (zA (zP (yM zJ [] 300 ?_)));refine zN ?_;exact zS (x.next om (by have:=c1.2;rw[bQ]at this;omega)) ⟨(by repeat(first|exact Sub.of_eq (by show D.sl false 1 _ nD 0=_;rw[tX0];rfl)|refine⟨?_,?_⟩|exact lx)),yF,rfl,rfl⟩ (by show(x.r.take (x.r.length-1)).length<x.r.length;rw[As];omega)
 ·
  refine yE (yA (yB (zY (zA (zK 400 ?_)))));refine zL ?_;exact u4 rfl (u9 (by show _=D.sl false 1 _ nD 0;rw[<-x.fin fun h e=>by rw[bQ,e,Bf om]at c1;cases c1]))
theorem td_n{e:Int}{s:Nat}(h:e=(s:Int)):Int.tdiv e 65536=((s/65536:Nat):Int):=by rw[h,Int.tdiv_eq_ediv_of_nonneg (by omega)];rfl
theorem tm_n{e:Int}{s:Nat}(h:e=(s:Int)):Int.tmod e 65536=((s%65536:Nat):Int):=by rw[h,Int.tmod_eq_emod_of_nonneg (by omega)];rfl
theorem qR1{e:Int}(h0:0<=e)(h1:e<=4611686018427387904):InI (Int.tdiv e 65536):=by rw[Int.tdiv_eq_ediv_of_nonneg h0];exact ini om om
theorem vK{l:List Nat}{y:Nat}{e:Int}(h:e=(y:Int)):l.map nD++[[.v (.int .i64 e)]]=(l++[y]).map nD:=by rw[Ad,h];rfl
theorem nD_snoc2{l:List Nat}{y z:Nat}{e f:Int}(h:e=(y:Int))(h2:f=(z:Int)):l.map nD++[[.v (.int .i64 e)],[.v (.int .i64 f)]]=(l++[y,z]).map nD:=by rw[Ad,h,h2];rfl
theorem of_lo{d:Nat}(h:d<4294967296):IntKind.i64.wrap (Int.tmod (d:Int) 65536)=((d%65536:Nat):Int):=by
 rw[tm_n rfl,InI.wrap ⟨by omega,by omega⟩]
theorem of_hi{d:Nat}(h:d<4294967296):IntKind.i64.wrap (IntKind.u32.wrap (Int.tdiv (d:Int) 65536))=((d/65536:Nat):Int):=by
 rw[td_n rfl,show IntKind.u32.wrap ((d/65536:Nat):Int)=((d/65536:Nat):Int) by
  simp only[IntKind.wrap,IntKind.signed,IntKind.bits,Ch,Az,if_false];omega,InI.wrap ⟨by omega,by omega⟩]
structure Of3(l:List Nat)where
 k:Nat
 o:List Nat
 eq:V o=VL (l.take k)
 lo:o.length=2*k
 dg:Dg o
 le:k<=l.length
def Of3.next{l:List Nat}(x:Of3 l)(hl:Lg l)(h:x.k<l.length):Of3 l:=⟨x.k+1,x.o++[l.getD x.k 0%65536,l.getD x.k 0/65536],by rw[qQ h];exact of_step x.eq x.lo h,by simp[x.lo];omega,by rw[qQ h];exact of_Dg x.dg (hl.at h),h⟩
structure Sm3(n:Nat)where
 m:Nat
 o:List Nat
 eq:o++dig m=dig n
 le:m<=n
def Sm3.next{n:Nat}(x:Sm3 n)(h:x.m≠0):Sm3 n:=⟨x.m/65536,x.o++[x.m%65536],by rw[<-x.eq,gL h,Cg];rfl,by have:=x.le;omega⟩
theorem Sm3.len{n:Nat}(x:Sm3 n)(h:n<18446744073709551616):x.o.length<=4:=by
 have h1:(dig n).length<=4:=qB (k:=4) om;rw[<-x.eq,Ae]at h1;omega
structure Cp3(a b:Nat)where
 k:Nat
 le:k<=(dig a).length
 eq:(dig a).drop k=(dig b).drop k
def Cp3.next{a b:Nat}(x:Cp3 a b)(hl:(dig a).length=(dig b).length)(h:0<x.k)(he:(dig a).getD (x.k-1) 0=(dig b).getD (x.k-1) 0):Cp3 a b:=⟨x.k-1,by have:=x.le;omega,by
 have h1:=x.le;rw[vM om,vM om]at he;rw[Cd om,Cd (l:=dig b) om,he,show x.k-1+1=x.k by omega,x.eq]⟩
theorem kM1{a b k:Nat}(hl:(dig a).length=(dig b).length)(hk:0<k)(hk2:k<=(dig a).length)(hd:(dig a).drop k=(dig b).drop k)(h:(dig a).getD (k-1) 0<(dig b).getD (k-1) 0):a<b:=by
 rw[vM om,vM om]at h;have:=lt_at (bY a) hl (i:=k-1) om (by rw[show k-1+1=k by omega];exact hd) h
 rwa[xE,xE]at this
theorem xN0{a b:Nat}(h:a<b):cmpN a b= -1:=Ab h
theorem qP0{a b:Nat}(h:b<a):cmpN a b=1:=by rw[cmpN,Aa (by omega),Ab h]
theorem dT0{a b:Nat}(h:a=b):cmpN a b=0:=by rw[cmpN,Aa (by omega),Aa (by omega)]
structure Pl3(a b:Nat)where
 k:Nat
 c:Nat
 o:List Nat
 eq:V o+c*65536^k=V ((dig a).take k)+V ((dig b).take k)
 lo:o.length=k
 dg:Dg o
 hc:c<=1
 le:k<=(dig a).length+(dig b).length+1
def Pl3.s{a b:Nat}(x:Pl3 a b):Nat:=x.c+(dig a).getD x.k 0+(dig b).getD x.k 0
def Pl3.next{a b:Nat}(x:Pl3 a b)(h:x.k<(dig a).length\/x.k<(dig b).length\/0<x.c):Pl3 a b:=⟨x.k+1,x.s/65536,x.o++[x.s%65536],plus_step x.eq x.lo rfl,by simp[x.lo],x.dg.snoc (Cx _ de),by
 have h1:=uF a x.k;have h2:=uF b x.k;have h3:=x.hc;unfold Pl3.s;omega,by
 rcases h with h|h|h
 ·omega
 ·omega
 ·have:=plus_in (bY a) (bY b) x.eq h;omega⟩
theorem Pl3.fin{a b:Nat}(x:Pl3 a b)(h1:(dig a).length<=x.k)(h2:(dig b).length<=x.k)(h3:x.c=0):V x.o=a+b:=by
 have:=plus_done (by rw[<-h3];exact x.eq) h1 h2
 rwa[xE,xE]at this
structure Mi3(a b:Nat)where
 k:Nat
 c:Nat
 o:List Nat
 eq:V o+V ((dig b).take k)=V ((dig a).take k)+c*65536^k
 lo:o.length=k
 dg:Dg o
 hc:c<=1
 le:k<=(dig a).length
def Mi3.next{a b:Nat}(x:Mi3 a b)(h:x.k<(dig a).length)(y d:Nat)(hy:y+(dig b).getD x.k 0+x.c=(dig a).getD x.k 0+65536*d)(h2:y<65536)(h3:d<=1):Mi3 a b:=⟨x.k+1,d,x.o++[y],minus_step x.eq x.lo h (by rw[<-vM h];exact hy),by simp[x.lo],x.dg.snoc h2,h3,h⟩
theorem Mi3.fin{a b:Nat}(x:Mi3 a b)(h:(dig a).length<=x.k)(hle:b<=a):V x.o=a-b:=by
 have hk:=x.le;have e:x.k=(dig a).length:=by omega
 have h1:=x.eq;rw[e]at h1;have:=minus_done x.dg (by rw[x.lo,e]) h1 (by rw[xE,xE];exact hle) (yT hle)
 rwa[xE,xE]at this
theorem qL1(l:List Nat)(hg:Lg l)(hl:l.length<=100000000):Fx 173 [usD l] (qK (VL l)):=by
 refine yD zJ Tryz.func173 rfl rfl rfl rfl rfl rfl ?_;intros;refine zK 100 ?_;refine zK 200 ?_;refine yY 3 3 1 rfl ?_;refine zB (zK 300 ?_);refine zP ?_;refine yC (ι:=Of3 l) [0] [] 350 (fun x=>[(4,.v (.int .i64 (x.k:Nat))),(3,.own 200 1 (x.o.map nD))]) (fun x=>[(200,.row 3 1 (x.o.map nD).length)]) (fun x=>l.length-x.k) ⟨0,[],by simp[VL,V],rfl,Dg.nil,Aq _⟩ ?_;refine⟨⟨yG,yF,rfl,rfl⟩,fun x=>?_⟩;have hk:=x.le;have hk2:=x.lo;refine zB (zK 400 ?_);refine zZ (fun c3=>?_) (fun c3=>?_)
 ·
  refine zM (zA (zB (zP ?_)));refine zX zJ [] [[],[],[],[1,2],[1,2,3],[1,2,3,4],[1,2,3,4,5],[],[],[7,8],[7,8,9],[7,8,9,10],[7,8,9,10,11],[1,2,3,4,5,6,7,8,9,10,11,12],(rgN 14),(rgN 15)] 600 yP kr rfl ?_;refine zF ?_;refine zC (zN (zA (yM zJ [] 700 ?_)));have hx:=qQ c3;have hx2:=hg.at c3;exact zS (x.next hg c3) ⟨(by repeat(first|exact u21 (by show(x.k:Int)+1=((x.k+1:Nat):Int);omega)|exact Sub.own (nD_snoc2 (of_lo (by rw[Ak,hx];exact hx2)) (of_hi (by rw[Ak,hx];exact hx2)))|refine⟨?_,?_⟩|exact lx)),(by repeat(first|exact trivial|exact u15 rfl|exact⟨rfl,rfl,by show _=(List.map nD (x.o++_)).length;simp⟩|refine⟨?_,?_⟩)),rfl,rfl⟩ (by show l.length-(x.k+1)<l.length-x.k;omega)
 ·
  refine yE (yA (yB (zY (zA ?_))));refine yL [] [] 410 [(3,.sl false 1 x.o nD 0)] [] ?_;refine⟨⟨⟨u5 rfl,trivial⟩,yF,rfl,rfl⟩,?_⟩;refine zB (zE zJ [] 700 rfl ?_);refine zF ?_;refine zQ _ (xA _ x.dg (by rw[hk2];omega)) rfl ?_;refine zf (zA (zL ?_));exact u4 rfl (u9 (by rw[x.eq,Ai om]))
theorem dC(n:Int)(h1:0<=n)(h2:n<=9223372036854775807):Fx 140 [.v (.int .i64 n)] (qK n.toNat):=by
 refine yD zJ Tryz.func140 rfl rfl rfl rfl rfl rfl ?_;intros;refine zK 100 ?_;refine zK 200 ?_;refine yY 3 3 1 rfl ?_;refine zB (zP ?_);refine yC (ι:=Sm3 n.toNat) [] [] 250 (fun x=>[(0,.v (.int .i64 (x.m:Nat))),(3,.own 200 1 (x.o.map nD))]) (fun x=>[(200,.row 3 1 (x.o.map nD).length)]) (fun x=>x.m) ⟨n.toNat,[],rfl,Ar _⟩ ?_;refine⟨⟨(by repeat(first|exact u21 (Int.toNat_of_nonneg h1).symm|refine⟨?_,?_⟩|exact lx)),yF,rfl,rfl⟩,fun x=>?_⟩;have hk:=x.le;have hk2:=x.len om;refine zB (zK 300 ?_);refine zZ (fun c2=>?_) (fun c2=>?_)
 ·
  refine zM (zA (zB (zP (yM zJ [] 500 ?_))));refine zN (zA ?_);refine zE zJ [] 600 rfl ?_;repeat(first|refine zH ?_|refine zW (by first|(refine⟨by decide,?_⟩;rw[td_n rfl];exact ini om om)|(rw[td_n rfl];exact ini om om)|exact Fa) ?_)
  refine zC ?_;exact zS (x.next (by omega)) ⟨(by repeat(first|exact u21 (td_n rfl)|exact Sub.own (vK (tm_n rfl))|refine⟨?_,?_⟩|exact lx)),(by repeat(first|exact trivial|exact u15 rfl|exact⟨rfl,rfl,by show _=(List.map nD (x.o++_)).length;simp⟩|refine⟨?_,?_⟩)),rfl,rfl⟩ (by show x.m/65536<x.m;omega)
 ·
  refine yE (yA (yB (zY (zA (zK 600 ?_)))));refine zL ?_;exact u4 rfl (SubP.ownSl (by have h0:=x.eq;rw[show x.m=0 by omega,jS,Cr]at h0;rw[h0]))
theorem uR(a b:Nat)(ha:(dig a).length<=100000000)(hb:(dig b).length<=100000000):Fx 137 [qK a,qK b] (.v (.int .i64 (cmpN a b))):=by
 refine yD zJ Tryz.func137 rfl rfl rfl rfl rfl rfl ?_;intros;refine zK 100 ?_;refine zB (zK 200 ?_);refine zZ (fun c1=>?_) (fun c1=>?_)
 ·
  refine zB (zK 300 ?_);refine zZ (fun c2=>?_) (fun c2=>?_)
  ·
   refine zK 400 ?_;refine zL (zO (zO ?_));exact u4 rfl (u10 (xN0 (bI om)).symm)
  ·
   refine zM (zA (zK 500 ?_));refine zL (zO ?_);exact u4 rfl (u10 (qP0 (bI om)).symm)
 ·
  refine zM (zA (zB (zK 600 ?_)));refine zP ?_;refine yC (ι:=Cp3 a b) [0,1] [] 650 (fun x=>[(5,.v (.int .i64 ((x.k:Int)-1)))]) (fun _=>[]) (fun x=>x.k) ⟨(dig a).length,Ar _,by rw[Bd (Ar _),Bd om]⟩ ?_;refine⟨⟨yG,yF,rfl,rfl⟩,fun x=>?_⟩;have hk:=x.le;have hkt:((x.k:Int)-1).toNat=x.k-1:=by omega
  refine zB (zK 700 ?_);refine zZ (fun c6=>?_) (fun c6=>?_)
  ·
   refine zM (zA (zB (zP (zB ?_))));refine zB (zX zJ [] mK2 900 yP kr rfl ?_);refine zF ?_;refine zC (zA (zZ (fun c8=>?_) (fun c8=>?_)))
   ·
    refine zK 1000 ?_;refine zL (zO (zR (zO (yQ (zR (zO ?_))))));rw[hkt]at c8;exact u4 rfl (u10 (xN0 (kM1 om om hk x.eq om)).symm)
   ·
    refine zM (zA ?_);refine zB (zX zJ [] mK2 1100 yP kr rfl ?_);refine zF ?_;refine zC (zA (zZ (fun c10=>?_) (fun c10=>?_)))
    ·
     refine zK 1200 ?_;refine zL (zR (zO (yQ (zR (zO ?_)))));rw[hkt]at c10;exact u4 rfl (u10 (qP0 (kM1 om om om x.eq.symm om)).symm)
    ·
     refine zM (zN (zA (yM zJ [] 1200 ?_)));rw[hkt]at c8 c10;exact zS (x.next (by omega) (by omega) (by omega)) ⟨(by repeat(first|exact u21 (by show(x.k:Int)-1-1=((x.k-1:Nat):Int)-1;omega)|refine⟨?_,?_⟩|exact lx)),yF,rfl,rfl⟩ (by show x.k-1<x.k;omega)
  ·
   refine yE (yA (yB (zY (zA (zK 1300 ?_)))));refine zL ?_;have hz:x.k=0:=by omega
   have he:=x.eq;rw[hz]at he;exact u4 rfl (u10 (dT0 (by have:=congrArg V he;rwa[Do,Do,xE,xE]at this)).symm)
theorem gM0{P:Program}{E:Pn}{K:DS->Prop}{p:Prop}{r:Out}(hr:r.sat P E K)(hp:p:=by first|exact trivial|omega|exact ini (by omega) (by omega)|(intro hh;simp at hh;exact ini om om)|(intro hh;simp at hh⊢;omega)|(simp at*;omega)|(simp_all;done)|(simp only[Ak];exact ini om om)):(Out.need p r).sat P E K:=⟨hp,hr⟩
theorem bS0{P:Program}{E:Pn}{K:DS->Prop}{p:Prop}{r:Out}(hr:r.sat P E K)(hp:p:=by first|exact⟨by decide,qR1 (by(try simp only[Ak]);omega) (by(try simp only[Ak]);omega)⟩|exact qR1 (by(try simp only[Ak]);omega) (by(try simp only[Ak]);omega)|exact Fa):(Out.need p r).sat P E K:=⟨hp,hr⟩
theorem vC0(a b:Nat)(ha:(dig a).length<=100000000)(hb:(dig b).length<=100000000):Fx 136 [qK a,qK b] (qK (a+b)):=by
 refine yD zJ Tryz.func136 rfl rfl rfl rfl rfl rfl ?_;intros;refine zK 100 ?_;refine zK 200 ?_;refine yY 5 3 1 rfl ?_;refine zK 300 ?_;refine zB (zK 400 ?_);refine zP ?_;refine yC (ι:=Pl3 a b) [0,1] [] 450 (fun x=>[(7,.v (.int .i64 (x.k:Nat))),(6,.v (.int .i64 (x.c:Nat))),(5,.own 200 1 (x.o.map nD))]) (fun x=>[(200,.row 3 1 (x.o.map nD).length)]) (fun x=>(dig a).length+(dig b).length+2-x.k) ⟨0,0,[],by simp[V],rfl,Dg.nil,by omega,by omega⟩ ?_;refine⟨⟨yG,yF,rfl,rfl⟩,fun x=>?_⟩;have hk:=x.le;have hk2:=x.lo;have hk3:=x.hc;have hk4:=uF a x.k;have hk5:=uF b x.k;refine zB (zK 500 ?_);refine zZ (fun c4=>?_) (fun c4=>?_)
 ·
  refine zM (zA (zB (zP (zB (zK 700 ?_)))));refine zZ (fun c6=>?_) (fun c6=>?_)
  ·
   refine zE zJ [] 800 rfl ?_;repeat(first|refine zH ?_|refine gM0 ?_)
   refine zC (zA (zB (zK 900 ?_)));refine zZ (fun c8=>?_) (fun c8=>?_)
   ·
    refine zE zJ [] 1000 rfl ?_;repeat(first|refine zH ?_|refine gM0 ?_)
    refine zC (zA (zK 1100 ?_));refine zE zJ [] 1200 rfl ?_;repeat(first|refine zH ?_|refine bS0 ?_)
    refine zC (zN (zA (yM zJ [] 1300 ?_)));exact zS (x.next (by omega)) ⟨(by repeat(first|exact u21 (by show(x.k:Int)+1=((x.k+1:Nat):Int);omega)|exact u21 (td_n (by show _=((x.c+(dig a).getD x.k 0+(dig b).getD x.k 0:Nat):Int);(try simp only[Ak]);omega))|exact Sub.own (vK (tm_n (by show _=((x.c+(dig a).getD x.k 0+(dig b).getD x.k 0:Nat):Int);(try simp only[Ak]);omega)))|refine⟨?_,?_⟩|exact lx)),(by repeat(first|exact trivial|exact u15 rfl|exact⟨rfl,rfl,by show _=(List.map nD (x.o++_)).length;simp⟩|refine⟨?_,?_⟩)),rfl,rfl⟩ (by show(dig a).length+(dig b).length+2-(x.k+1)<(dig a).length+(dig b).length+2-x.k;omega)
   ·
    refine zM (zA (zK 1100 ?_));refine zE zJ [] 1200 rfl ?_;repeat(first|refine zH ?_|refine bS0 ?_)
    refine zC (zN (zA (yM zJ [] 1300 ?_)));have zb:(dig b).getD x.k 0=0:=wB om;exact zS (x.next (by omega)) ⟨(by repeat(first|exact u21 (by show(x.k:Int)+1=((x.k+1:Nat):Int);omega)|exact u21 (td_n (by show _=((x.c+(dig a).getD x.k 0+(dig b).getD x.k 0:Nat):Int);(try simp only[Ak]);omega))|exact Sub.own (vK (tm_n (by show _=((x.c+(dig a).getD x.k 0+(dig b).getD x.k 0:Nat):Int);(try simp only[Ak]);omega)))|refine⟨?_,?_⟩|exact lx)),(by repeat(first|exact trivial|exact u15 rfl|exact⟨rfl,rfl,by show _=(List.map nD (x.o++_)).length;simp⟩|refine⟨?_,?_⟩)),rfl,rfl⟩ (by show(dig a).length+(dig b).length+2-(x.k+1)<(dig a).length+(dig b).length+2-x.k;omega)
  ·
   refine zM (zA (zB (zK 900 ?_)));refine zZ (fun c8=>?_) (fun c8=>?_)
   ·
    refine zE zJ [] 1000 rfl ?_;repeat(first|refine zH ?_|refine gM0 ?_)
    refine zC (zA (zK 1100 ?_));refine zE zJ [] 1200 rfl ?_;repeat(first|refine zH ?_|refine bS0 ?_)
    refine zC (zN (zA (yM zJ [] 1300 ?_)));have za:(dig a).getD x.k 0=0:=wB om;exact zS (x.next (by omega)) ⟨(by repeat(first|exact u21 (by show(x.k:Int)+1=((x.k+1:Nat):Int);omega)|exact u21 (td_n (by show _=((x.c+(dig a).getD x.k 0+(dig b).getD x.k 0:Nat):Int);(try simp only[Ak]);omega))|exact Sub.own (vK (tm_n (by show _=((x.c+(dig a).getD x.k 0+(dig b).getD x.k 0:Nat):Int);(try simp only[Ak]);omega)))|refine⟨?_,?_⟩|exact lx)),(by repeat(first|exact trivial|exact u15 rfl|exact⟨rfl,rfl,by show _=(List.map nD (x.o++_)).length;simp⟩|refine⟨?_,?_⟩)),rfl,rfl⟩ (by show(dig a).length+(dig b).length+2-(x.k+1)<(dig a).length+(dig b).length+2-x.k;omega)
   ·
    refine zM (zA (zK 1100 ?_));refine zE zJ [] 1200 rfl ?_;repeat(first|refine zH ?_|refine bS0 ?_)
    refine zC (zN (zA (yM zJ [] 1300 ?_)));have za:(dig a).getD x.k 0=0:=wB om;have zb:(dig b).getD x.k 0=0:=wB om;exact zS (x.next (by omega)) ⟨(by repeat(first|exact u21 (by show(x.k:Int)+1=((x.k+1:Nat):Int);omega)|exact u21 (td_n (by show _=((x.c+(dig a).getD x.k 0+(dig b).getD x.k 0:Nat):Int);(try simp only[Ak]);omega))|exact Sub.own (vK (tm_n (by show _=((x.c+(dig a).getD x.k 0+(dig b).getD x.k 0:Nat):Int);(try simp only[Ak]);omega)))|refine⟨?_,?_⟩|exact lx)),(by repeat(first|exact trivial|exact u15 rfl|exact⟨rfl,rfl,by show _=(List.map nD (x.o++_)).length;simp⟩|refine⟨?_,?_⟩)),rfl,rfl⟩ (by show(dig a).length+(dig b).length+2-(x.k+1)<(dig a).length+(dig b).length+2-x.k;omega)
 ·
  refine yE (yA (yB (zY (zA ?_))));refine yL [] [] 510 [(5,.sl false 1 x.o nD 0)] [] ?_;refine⟨⟨⟨u5 rfl,trivial⟩,yF,rfl,rfl⟩,?_⟩;refine zB (zE zJ [] 1300 rfl ?_);refine zF ?_;refine zQ _ (xA _ x.dg (by rw[hk2];omega)) rfl ?_;refine zf (zA (zL ?_));exact u4 rfl (u9 (by rw[x.fin om om om]))
theorem gI1{P:Program}{E:Pn}{K:DS->Prop}{p:Prop}{r:Out}(hr:r.sat P E K)(hp:p:=by first|exact trivial|omega|exact ini (by omega) (by omega)|(intro hh;simp at hh;exact ini om om)|(intro hh;simp at hh⊢;omega)|(simp at*;omega)|(simp_all;done)|(simp only[Ak]at*;exact ini om om)):(Out.need p r).sat P E K:=⟨hp,hr⟩
theorem xT(a b:Nat)(hle:b<=a)(ha:(dig a).length<=100000000):Fx 138 [qK a,qK b] (qK (a-b)):=by
 refine yD zJ Tryz.func138 rfl rfl rfl rfl rfl rfl ?_;intros;refine zK 100 ?_;refine zK 200 ?_;refine yY 5 3 1 rfl ?_;refine zK 300 ?_;refine zB (zK 400 ?_);refine zP ?_;refine yC (ι:=Mi3 a b) [0,1] [] 450 (fun x=>[(7,.v (.int .i64 (x.k:Nat))),(6,.v (.int .i64 (x.c:Nat))),(5,.own 200 1 (x.o.map nD))]) (fun x=>[(200,.row 3 1 (x.o.map nD).length)]) (fun x=>(dig a).length-x.k) ⟨0,0,[],by simp[V],rfl,Dg.nil,by omega,by omega⟩ ?_;refine⟨⟨yG,yF,rfl,rfl⟩,fun x=>?_⟩;have hk:=x.le;have hk2:=x.lo;have hk3:=x.hc;have hk4:=uF a x.k;have hk5:=uF b x.k;refine zB (zK 500 ?_);refine zZ (fun c4=>?_) (fun c4=>?_)
 ·
  refine zM (zA (zB (zP ?_)));refine zB (zE zJ [] 700 rfl ?_);repeat(first|refine zH ?_|refine gM0 ?_)
  refine zC (zA (zB (zK 800 ?_)));refine zZ (fun c7=>?_) (fun c7=>?_)
  ·
   refine zE zJ [] 900 rfl ?_;repeat(first|refine zH ?_|refine gM0 ?_)
   refine zC (zA (zK 1000 ?_));refine zB (zK 1100 ?_);refine zZ (fun c10=>?_) (fun c10=>?_)
   ·
    refine zB (zE zJ [] 1200 rfl ?_);repeat(first|refine zH ?_|refine gI1 ?_)
    refine zC (zA (yM zJ [] 1300 ?_));refine zA (yM zJ [] 1400 ?_);refine zN (zA (yM zJ [] 1500 ?_));try simp only[Ak]at c10
    exact zS (x.next (by omega) ((dig a).getD x.k 0+65536-x.c-(dig b).getD x.k 0) 1 (by omega) (by omega) (by omega)) ⟨(by repeat(first|exact u21 (by show(x.k:Int)+1=((x.k+1:Nat):Int);omega)|exact Sub.own (vK (by(try simp only[Ak]);omega))|refine⟨?_,?_⟩|exact lx)),(by repeat(first|exact trivial|exact u15 rfl|exact⟨rfl,rfl,by show _=(List.map nD (x.o++_)).length;simp⟩|refine⟨?_,?_⟩)),rfl,rfl⟩ (by show(dig a).length-(x.k+1)<(dig a).length-x.k;omega)
   ·
    refine zM (zA (yM zJ [] 1400 ?_));refine zN (zA (yM zJ [] 1500 ?_));try simp only[Ak]at c10
    exact zS (x.next (by omega) ((dig a).getD x.k 0+0-x.c-(dig b).getD x.k 0) 0 (by omega) (by omega) (by omega)) ⟨(by repeat(first|exact u21 (by show(x.k:Int)+1=((x.k+1:Nat):Int);omega)|exact Sub.own (vK (by(try simp only[Ak]);omega))|refine⟨?_,?_⟩|exact lx)),(by repeat(first|exact trivial|exact u15 rfl|exact⟨rfl,rfl,by show _=(List.map nD (x.o++_)).length;simp⟩|refine⟨?_,?_⟩)),rfl,rfl⟩ (by show(dig a).length-(x.k+1)<(dig a).length-x.k;omega)
  ·
   refine zM (zA (zK 1000 ?_));refine zB (zK 1100 ?_);refine zZ (fun c10=>?_) (fun c10=>?_)
   ·
    refine zB (zE zJ [] 1200 rfl ?_);repeat(first|refine zH ?_|refine gI1 ?_)
    refine zC (zA (yM zJ [] 1300 ?_));refine zA (yM zJ [] 1400 ?_);refine zN (zA (yM zJ [] 1500 ?_));try simp only[Ak]at c10
    have zb:(dig b).getD x.k 0=0:=wB om;exact zS (x.next (by omega) ((dig a).getD x.k 0+65536-x.c-(dig b).getD x.k 0) 1 (by omega) (by omega) (by omega)) ⟨(by repeat(first|exact u21 (by show(x.k:Int)+1=((x.k+1:Nat):Int);omega)|exact Sub.own (vK (by(try simp only[Ak]);omega))|refine⟨?_,?_⟩|exact lx)),(by repeat(first|exact trivial|exact u15 rfl|exact⟨rfl,rfl,by show _=(List.map nD (x.o++_)).length;simp⟩|refine⟨?_,?_⟩)),rfl,rfl⟩ (by show(dig a).length-(x.k+1)<(dig a).length-x.k;omega)
   ·
    refine zM (zA (yM zJ [] 1400 ?_));refine zN (zA (yM zJ [] 1500 ?_));try simp only[Ak]at c10
    have zb:(dig b).getD x.k 0=0:=wB om;exact zS (x.next (by omega) ((dig a).getD x.k 0+0-x.c-(dig b).getD x.k 0) 0 (by omega) (by omega) (by omega)) ⟨(by repeat(first|exact u21 (by show(x.k:Int)+1=((x.k+1:Nat):Int);omega)|exact Sub.own (vK (by(try simp only[Ak]);omega))|refine⟨?_,?_⟩|exact lx)),(by repeat(first|exact trivial|exact u15 rfl|exact⟨rfl,rfl,by show _=(List.map nD (x.o++_)).length;simp⟩|refine⟨?_,?_⟩)),rfl,rfl⟩ (by show(dig a).length-(x.k+1)<(dig a).length-x.k;omega)
 ·
  refine yE (yA (yB (zY (zA ?_))));refine yL [] [] 510 [(5,.sl false 1 x.o nD 0)] [] ?_;refine⟨⟨⟨u5 rfl,trivial⟩,yF,rfl,rfl⟩,?_⟩;refine zB (zE zJ [] 1500 rfl ?_);refine zF ?_;refine zQ _ (xA _ x.dg (by rw[hk2];omega)) rfl ?_;refine zf (zA (zL ?_));exact u4 rfl (u9 (by rw[x.fin om hle]))
structure Db3(a one:Nat)where
 k:Nat
 c:Nat
 o:List Nat
 eq:V o+c*65536^k=2*V ((dig a).take k)+one
 lo:o.length=k
 dg:Dg o
 hc:c<=1
 le:k<=(dig a).length
def Db3.s{a one:Nat}(x:Db3 a one):Nat:=2*(dig a).getD x.k 0+x.c
def Db3.next{a one:Nat}(x:Db3 a one)(h:x.k<(dig a).length):Db3 a one:=⟨x.k+1,x.s/65536,x.o++[x.s%65536],double_step x.eq x.lo h (by unfold Db3.s;rw[vM h]),by simp[x.lo],x.dg.snoc (Cx _ de),by
 have h1:=uF a x.k;have h3:=x.hc;unfold Db3.s;omega,h⟩
theorem Db3.fin{a one:Nat}(x:Db3 a one)(h:(dig a).length<=x.k):V (x.o++[x.c])=2*a+one:=by
 have h1:=x.eq;rw[Ai h,xE]at h1;rw[yF0,x.lo,Aw];exact h1
theorem Db3.fin0{a one:Nat}(x:Db3 a one)(h:(dig a).length<=x.k)(h0:x.c=0):V x.o=2*a+one:=by
 have h1:=x.fin h;rw[yF0,h0]at h1;exact h1
theorem qW0(a:Nat)(one:Bool)(ha:(dig a).length<=10000000):Fx 206 [qK a,.v (.bool one)] (qK (2*a+one.toNat)):=by
 have hon:one.toNat<=1:=by cases one<;>decide
 refine yD zJ Tryz.func206 rfl rfl rfl rfl rfl rfl ?_;intros;refine zK 100 ?_;refine zK 200 ?_;refine zB (zK 300 ?_);refine zZ (fun c2=>?_) (fun c2=>?_)
 ·
  refine yM zJ [] 400 ?_;refine zA (zK 500 ?_);refine yY 6 3 1 rfl ?_;refine zB (zK 600 ?_);refine zP ?_;refine yC (ι:=Db3 a one.toNat) [0] [] 650 (fun x=>[(7,.v (.int .i64 (x.k:Nat))),(5,.v (.int .i64 (x.c:Nat))),(6,.own 500 1 (x.o.map nD))]) (fun x=>[(500,.row 3 1 (x.o.map nD).length)]) (fun x=>(dig a).length-x.k) ⟨0,one.toNat,[],by simp[V],rfl,Dg.nil,hon,by omega⟩ ?_;refine⟨⟨(by repeat(first|exact u21 (by show _=((one.toNat:Nat):Int);rw[c2];rfl)|refine⟨?_,?_⟩|exact lx)),yF,rfl,rfl⟩,fun x=>?_⟩;have hk:=x.le;have hk2:=x.lo;have hk3:=x.hc;have hk4:=uF a x.k;refine zB (zK 700 ?_);refine zZ (fun c6=>?_) (fun c6=>?_)
  ·
   refine zM (zA (zB (zP ?_)));refine zB (zE zJ [] 900 rfl ?_);repeat(first|refine zH ?_|refine gM0 ?_)
   refine zC (zA (zK 1000 ?_));refine zE zJ [] 1100 rfl ?_;repeat(first|refine zH ?_|refine bS0 ?_)
   refine zC (zN (zA (yM zJ [] 1200 ?_)));exact zS (x.next (by omega)) ⟨(by repeat(first|exact u21 (by show(x.k:Int)+1=((x.k+1:Nat):Int);omega)|exact u21 (td_n (by show _=((2*(dig a).getD x.k 0+x.c:Nat):Int);(try simp only[Ak]);omega))|exact Sub.own (vK (tm_n (by show _=((2*(dig a).getD x.k 0+x.c:Nat):Int);(try simp only[Ak]);omega)))|refine⟨?_,?_⟩|exact lx)),(by repeat(first|exact trivial|exact u15 rfl|exact⟨rfl,rfl,by show _=(List.map nD (x.o++_)).length;simp⟩|refine⟨?_,?_⟩)),rfl,rfl⟩ (by show(dig a).length-(x.k+1)<(dig a).length-x.k;omega)
  ·
   refine yE (yA (yB (zY (zA (zB (zK 1200 ?_))))));refine zZ (fun c11=>?_) (fun c11=>?_)
   ·
    refine yM zJ [] 1300 ?_;refine zA ?_;refine zB (zE zJ [] 1400 rfl ?_);refine zF ?_;refine zQ _ ((xA (x.o++[x.c]) (x.dg.snoc om) (by have:=hk2;simp<;>omega)).args ⟨SubP.ownSl (vK rfl),trivial⟩) rfl ?_
    refine zf (zA (zL ?_));exact u4 rfl (u9 (by rw[x.fin om]))
   ·
    refine zM (zA ?_);refine zB (zE zJ [] 1400 rfl ?_);refine zF ?_;refine zQ _ ((xA _ x.dg (by rw[hk2];omega)).args ⟨SubP.ownSl rfl,trivial⟩) rfl ?_;refine zf (zA (zL ?_));exact u4 rfl (u9 (by rw[x.fin0 om om]))
 ·
  refine zM (zA (zK 500 ?_));refine yY 6 3 1 rfl ?_;refine zB (zK 600 ?_);refine zP ?_;refine yC (ι:=Db3 a one.toNat) [0] [] 650 (fun x=>[(7,.v (.int .i64 (x.k:Nat))),(5,.v (.int .i64 (x.c:Nat))),(6,.own 500 1 (x.o.map nD))]) (fun x=>[(500,.row 3 1 (x.o.map nD).length)]) (fun x=>(dig a).length-x.k) ⟨0,one.toNat,[],by simp[V],rfl,Dg.nil,hon,by omega⟩ ?_;refine⟨⟨(by repeat(first|exact u21 (by show _=((one.toNat:Nat):Int);rw[c2];rfl)|refine⟨?_,?_⟩|exact lx)),yF,rfl,rfl⟩,fun x=>?_⟩;have hk:=x.le;have hk2:=x.lo;have hk3:=x.hc;have hk4:=uF a x.k;refine zB (zK 700 ?_);refine zZ (fun c6=>?_) (fun c6=>?_)
  ·
   refine zM (zA (zB (zP ?_)));refine zB (zE zJ [] 900 rfl ?_);repeat(first|refine zH ?_|refine gM0 ?_)
   refine zC (zA (zK 1000 ?_));refine zE zJ [] 1100 rfl ?_;repeat(first|refine zH ?_|refine bS0 ?_)
   refine zC (zN (zA (yM zJ [] 1200 ?_)));exact zS (x.next (by omega)) ⟨(by repeat(first|exact u21 (by show(x.k:Int)+1=((x.k+1:Nat):Int);omega)|exact u21 (td_n (by show _=((2*(dig a).getD x.k 0+x.c:Nat):Int);(try simp only[Ak]);omega))|exact Sub.own (vK (tm_n (by show _=((2*(dig a).getD x.k 0+x.c:Nat):Int);(try simp only[Ak]);omega)))|refine⟨?_,?_⟩|exact lx)),(by repeat(first|exact trivial|exact u15 rfl|exact⟨rfl,rfl,by show _=(List.map nD (x.o++_)).length;simp⟩|refine⟨?_,?_⟩)),rfl,rfl⟩ (by show(dig a).length-(x.k+1)<(dig a).length-x.k;omega)
  ·
   refine yE (yA (yB (zY (zA (zB (zK 1200 ?_))))));refine zZ (fun c11=>?_) (fun c11=>?_)
   ·
    refine yM zJ [] 1300 ?_;refine zA ?_;refine zB (zE zJ [] 1400 rfl ?_);refine zF ?_;refine zQ _ ((xA (x.o++[x.c]) (x.dg.snoc om) (by have:=hk2;simp<;>omega)).args ⟨SubP.ownSl (vK rfl),trivial⟩) rfl ?_
    refine zf (zA (zL ?_));exact u4 rfl (u9 (by rw[x.fin om]))
   ·
    refine zM (zA ?_);refine zB (zE zJ [] 1400 rfl ?_);refine zF ?_;refine zQ _ ((xA _ x.dg (by rw[hk2];omega)).args ⟨SubP.ownSl rfl,trivial⟩) rfl ?_;refine zf (zA (zL ?_));exact u4 rfl (u9 (by rw[x.fin0 om om]))
theorem V_at{l:List Nat}{j:Nat}(h:j<l.length):V (l.drop j)=l.getD j 0+65536*V (l.drop (j+1)):=by
 rw[Cd h,Af,Ac h];rfl
structure Hv(a q:Nat)where
 j:Nat
 o:List Nat
 r:Nat
 lo:o.length=(dig a).length
 le:j<=(dig a).length
 dg:Dg o
 eq:V (o.drop j)=V ((dig a).drop j)/q
 re:r=V ((dig a).drop j)%q
def Hv.t{a q:Nat}(x:Hv a q):Nat:=x.r*65536+(dig a).getD (x.j-1) 0
theorem Hv.t_lt{a q:Nat}(x:Hv a q)(hq:0<q):x.t<q*65536:=by
 have h1:=uF a (x.j-1);have h2:=x.re;have h3:=Cx (V ((dig a).drop x.j)) hq;unfold Hv.t;omega
theorem Hv.st{a q:Nat}(x:Hv a q)(h:0<x.j):V ((dig a).drop (x.j-1))=x.t+q*(65536*(V ((dig a).drop x.j)/q)):=by
 have hle:=x.le;have e1:=V_at (l:=dig a) (j:=x.j-1) om;rw[e1,show x.j-1+1=x.j by omega];have h2:=x.re;have h3:=Dd (V ((dig a).drop x.j)) q;unfold Hv.t;rw[Nat.mul_left_comm q 65536];generalize q*(V ((dig a).drop x.j)/q)=P at*;omega
def Hv.next{a q:Nat}(x:Hv a q)(hq:0<q)(h:0<x.j):Hv a q:=⟨x.j-1,x.o.set (x.j-1) (x.t/q),x.t%q,by rw[Bu];exact x.lo,by have:=x.le;omega,by
  intro d hd;rcases Dy hd with hd|rfl
  ·exact x.dg d hd
  ·exact Nat.div_lt_of_lt_mul (x.t_lt hq),by
  have hl:=x.lo;have hle:=x.le;have e2:=V_at (l:=x.o.set (x.j-1) (x.t/q)) (j:=x.j-1) (by rw[Bu];omega);have e3:(x.o.set (x.j-1) (x.t/q)).getD (x.j-1) 0=x.t/q:=by
   rw[Af,List.getElem?_set_self om];rfl
  have e4:(x.o.set (x.j-1) (x.t/q)).drop (x.j-1+1)=x.o.drop x.j:=by
   rw[show x.j-1+1=x.j by omega,List.drop_set_of_lt om]
  rw[e2,e3,e4,x.eq,x.st h,Nat.add_mul_div_left _ _ hq],by
  rw[x.st h,Nat.add_mul_mod_self_left]⟩
theorem zrowsH(n:Nat):(MR.map (List.replicate n ()) (fun _=>litS [.int .i64 0]) ()).rows=(MR.map (List.replicate n 0) nD 0).rows:=by
 show(List.replicate n ()).map _=(List.replicate n 0).map nD;rw[List.map_replicate,List.map_replicate];rfl
def Hv.start(a q:Nat):Hv a q:=⟨(dig a).length,List.replicate (dig a).length 0,0,by simp,Ar _,fun d hd=>by rw[(List.mem_replicate.1 hd).2];decide,by rw[Bd (by simp),Bd (Ar _)];exact(Nat.zero_div q).symm,by rw[Bd (Ar _)];exact(Nat.zero_mod q).symm⟩
theorem wK1{P:Program}{E:Pn}{K:DS->Prop}{p:Prop}{r:Out}(hr:r.sat P E K)(hp:p:=by first|exact⟨hm,by rw[<-hm];omega⟩|exact⟨hm,by omega⟩|(constructor<;>omega)|(rw[hkt,hte];exact ini om om)|(rw[hkt,hte,htd];exact ini om om)|(rw[hkt,hte];exact⟨by omega,hT⟩)|(rw[hkt,hte];exact⟨by omega,hM⟩)|(rw[hkt,hte];exact hT)|(rw[hkt,hte];exact hM)|exact hT|exact hM|omega|exact Fa):(Out.need p r).sat P E K:=⟨hp,hr⟩
theorem kO(a q:Nat)(hq:2<=q/\q<=16)(ha:(dig a).length<=10000000):Fx 205 [qK a,.v (.int .i64 (q:Nat))] (.tup [qK (a/q),.v (.int .i64 ((a%q:Nat):Int))]):=by
 refine yD zJ Tryz.func205 rfl rfl rfl rfl rfl rfl ?_;intros;refine zK 100 ?_;refine ev_R zJ [1011] 200 ?_;refine yL [0,1] [] 210 [(6,.mo 102 (dig a).length)] [(102,.mrow 3 1 (.map (List.replicate (dig a).length 0) nD 0))] ?_;refine⟨⟨⟨Sub.mo om,yG⟩,⟨SubO.mr (by rw[zrowsH];congr 3),yF⟩,rfl,rfl⟩,?_⟩;refine zK 300 ?_;refine zB (zK 400 ?_);refine zP ?_;refine yC (ι:=Hv a q) [0,1,6] [] 450 (fun x=>[(8,.v (.int .i64 ((x.j:Int)-1))),(7,.v (.int .i64 (x.r:Nat)))]) (fun x=>[(102,.mrow 3 1 (.map x.o nD 0))]) (fun x=>x.j) (Hv.start a q) ?_;refine⟨⟨yG,yF,rfl,rfl⟩,fun x=>?_⟩;have hlo:=x.lo;have hle:=x.le;have ht:=x.t_lt om;have hre:=x.re;have hrq:=Cx (V ((dig a).drop x.j)) (show 0<q by omega);have hdq:x.t/q<=x.t:=Er _ _;have hmq:=Cx x.t (show 0<q by omega);have hT:InI ((x.t/q:Nat):Int):=by
  generalize x.t/q=Z at*;exact ini om om
 have hM:InI ((x.t%q:Nat):Int):=by
  generalize x.t%q=Z at*;exact ini om om
 have hm:(dig a).length=(MR.map x.o nD 0).len:=by rw[MR.len,x.lo]
 have hkt:((x.j:Int)-1).toNat=x.j-1:=by omega
 have hte:(x.r:Int)*65536+(((dig a).getD (x.j-1) 0:Nat):Int)=((x.t:Nat):Int):=by unfold Hv.t;omega
 have htd:Int.tdiv ((x.t:Nat):Int) (q:Int)=((x.t/q:Nat):Int):=rfl;have htm:Int.tmod ((x.t:Nat):Int) (q:Int)=((x.t%q:Nat):Int):=rfl;refine zB (zK 500 ?_);refine zZ (fun c4=>?_) (fun c4=>?_)
 ·
  refine zM (zA (zB (zP ?_)));refine zB (zE zJ [] 700 rfl ?_);repeat(first|refine zH ?_|refine wK1 ?_)
  refine zC (zA ?_);refine zB (zE zJ [] 800 rfl ?_);repeat(first|refine zH ?_|refine wK1 ?_)
  refine zC (zA ?_);refine zE zJ [] 900 rfl ?_;repeat(first|refine zH ?_|refine wK1 ?_)
  refine zC (zN (zA (yM zJ [] 1000 ?_)));exact zS (x.next om om) ⟨⟨u21 (by show(x.j:Int)-1-1=((x.j-1:Nat):Int)-1;omega),u21 (by show _=((x.t%q:Nat):Int);rw[hkt,hte];rfl),yG⟩,⟨SubO.mr (by show(x.o.map nD).set ((x.j:Int)-1).toNat [.v (.int .i64 (Int.tdiv ((x.r:Int)*65536+(((dig a).getD ((x.j:Int)-1).toNat 0:Nat):Int)) (q:Int)))]=(x.o.set (x.j-1) (x.t/q)).map nD;rw[hkt,hte,htd,List.map_set];rfl),yF⟩,rfl,rfl⟩ (by show x.j-1<x.j;omega)
 ·
  refine yE (yA (yB (zY (zA ?_))));refine qT 102 rfl (by repeat(first|exact trivial|exact hm|refine⟨?_,?_⟩)) (by repeat(first|exact trivial|refine⟨?_,?_⟩)) ?_;refine zB (zE zJ [] 1000 rfl ?_);refine zF ?_;refine zQ _ ((xA x.o x.dg (by rw[x.lo];omega)).args ⟨SubP.ownSl rfl,trivial⟩) rfl ?_;refine zf (zA (zL ?_));have hz:x.j=0:=by omega
  have e:=x.eq;have e2:=x.re;rw[hz,Do,Do,xE]at e;rw[hz,Do,xE]at e2;exact u4 rfl (u19 ⟨u9 (by rw[e]),u9 (by rw[e2];rfl),trivial⟩)
theorem dig_len_of_le{x y n:Nat}(h:x<=y)(hn:(dig y).length<=n):(dig x).length<=n:=At (yT h) hn
theorem twos_bound{x t a n:Nat}(h:2^t*a<=x)(ha:0<a)(hn:(dig x).length<=n):t<16*n:=by
 have h1:=pX x;have h2:65536^(dig x).length<=65536^n:=Bb om hn;have h3:2^t<=2^t*a:=Nat.le_mul_of_pos_right _ ha;have h4:65536^n=2^(16*n):=by rw[Nat.pow_mul]
 rcases Br t (16*n)with h5|h5
 ·exact h5
 ·have h6:2^(16*n)<=2^t:=Bb om h5;omega
theorem gcd_two{X a b t:Nat}(h:X=Nat.gcd a b*2^t)(ha:a%2=0)(hb:b%2=0):X=Nat.gcd (a/2) (b/2)*2^(t+1):=by
 rw[h,gcd_even2 ha hb,By,Aw 2,Bp,Aw 2]
theorem zW1{x y n:Nat}(na:(dig x).length<=n)(nb:(dig y).length<=n):(dig (Nat.gcd x y)).length<=n:=by
 rcases Bz x with rfl|hx
 ·rw[Nat.gcd_zero_left];exact nb
 ·exact dig_len_of_le (Nat.gcd_le_left y hx) na
theorem dig_first(n:Nat):(dig n).getD 0 0=n%65536:=by
 by_cases h:n=0
 ·rw[h,jS];rfl
 ·rw[gL h];rfl
theorem par(n:Nat):Int.tmod (((dig n).getD (Int.toNat 0) 0:Nat):Int) 2=((n%2:Nat):Int):=by
 rw[show Int.toNat 0=0 from rfl,dig_first];show(((n%65536)%2:Nat):Int)=_;congr 1;omega
theorem kZ(n:Nat):(0<((dig n).length:Int))↔0<n:=by
 by_cases h:n=0
 ·rw[h,jS];simp
 ·rw[gL h,Am];omega
structure Cm(x y:Nat)where
 a:Nat
 b:Nat
 t:Nat
 eq:Nat.gcd x y=Nat.gcd a b*2^t
 la:a<=x
 lb:b<=y
 tt:2^t*a<=x
 bd:t<=16*100000
def Cm.two{x y:Nat}(z:Cm x y)(ha:z.a%2=0)(hb:z.b%2=0)(hp:0<z.a)(hn:(dig x).length<=100000):Cm x y:=⟨z.a/2,z.b/2,z.t+1,gcd_two z.eq ha hb,At (Er _ _) z.la,At (Er _ _) z.lb,by
 have h1:=z.tt;rw[By,Bp,show 2*(z.a/2)=z.a by omega];exact h1,by
 have h1:=z.tt;exact Dn (twos_bound (a:=z.a/2) (by rw[By,Bp,show 2*(z.a/2)=z.a by omega];exact h1) om hn)⟩
def Cm.ev1{x y:Nat}(z:Cm x y)(ha:z.a%2=0)(hb:¬z.b%2=0):Cm x y:=⟨z.a/2,z.b,z.t,by rw[z.eq,wY0 ha om],At (Er _ _) z.la,z.lb,At (Cv _ (Er _ _)) z.tt,z.bd⟩
def Cm.ev2{x y:Nat}(z:Cm x y)(ha:¬z.a%2=0)(hb:z.b%2=0):Cm x y:=⟨z.a,z.b/2,z.t,by rw[z.eq,Nat.gcd_comm,wY0 hb om,Nat.gcd_comm],z.la,At (Er _ _) z.lb,z.tt,z.bd⟩
def Cm.s1{x y:Nat}(z:Cm x y)(h:z.b<=z.a):Cm x y:=⟨z.a-z.b,z.b,z.t,by rw[z.eq,dC0 h],by have:=z.la;omega,z.lb,At (Cv _ (Nat.sub_le _ _)) z.tt,z.bd⟩
def Cm.s2{x y:Nat}(z:Cm x y)(h:z.a<=z.b):Cm x y:=⟨z.a,z.b-z.a,z.t,by rw[z.eq,Nat.gcd_comm,dC0 h,Nat.gcd_comm],z.la,by have:=z.lb;omega,z.tt,z.bd⟩
theorem Cm.fin{x y:Nat}(z:Cm x y)(h:¬(0<z.a/\0<z.b)):Nat.gcd x y=(z.a+z.b)*2^z.t:=by
 rw[z.eq];rcases Bz z.a with e|e
 ·rw[e,Nat.gcd_zero_left,Cp]
 ·rw[show z.b=0 by omega,Nat.gcd_zero_right,Ck]
structure Cq(g:Nat)where
 s:Nat
 o:Nat
 eq:g=o*2^s
 bd:s<=16*100000
def Cq.next{g:Nat}(z:Cq g)(h:0<z.s):Cq g:=⟨z.s-1,2*z.o,z.eq.trans (by
 have e:2^z.s=2*2^(z.s-1):=by
  rw[<-Nat.pow_succ'];congr 1;omega
 rw[e,<-Bp,Aw z.o 2]),by have:=z.bd;omega⟩
theorem Cq.le{g:Nat}(z:Cq g):z.o<=g:=At (Nat.le_mul_of_pos_right _ (Nat.pow_pos om)) (Nat.le_of_eq z.eq.symm)
theorem gH1{P:Program}{E:Pn}{K:DS->Prop}{p:Prop}{r:Out}(hr:r.sat P E K)(hp:p:=by first|exact⟨by decide,by show 0<_;omega⟩|(rw[par];exact ini om om)|(refine⟨by decide,?_⟩;rw[par];exact ini om om)|exact Fa):(Out.need p r).sat P E K:=⟨hp,hr⟩
theorem Common3_ok(x0 y0:Nat)(ha:(dig x0).length<=100000)(hb:(dig y0).length<=100000):Fx 172 [qK x0,qK y0] (qK (Nat.gcd x0 y0)):=by
 refine yD zJ Tryz.func172 rfl rfl rfl rfl rfl rfl ?_;intros;refine zK 100 ?_;refine zK 200 ?_;refine zB (zP ?_);refine yC (ι:=Cm x0 y0) [] [] 250 (fun x=>[(0,qK x.a),(1,qK x.b),(5,.v (.int .i64 (x.t:Nat)))]) (fun _=>[]) (fun x=>x.a+x.b) ⟨x0,y0,0,by simp,Ar _,Ar _,by simp,Aq _⟩ ?_;refine⟨⟨yG,yF,rfl,rfl⟩,fun x=>?_⟩
 skip
 refine zB (zK 300 ?_);refine zU rfl (fun c2=>?_) (fun c2=>?_)
 ·rw[Aj,Ap,Ap]at c2;have hab:0<x.a/\0<x.b:=⟨(kZ _).1 c2.1,(kZ _).1 c2.2⟩;have hla:=(kZ x.a).2 hab.1;have hlb:=(kZ x.b).2 hab.2;refine zM (zA (zP (zP ?_)));refine zB (zE zJ [] 500 rfl ?_);repeat(first|refine zH ?_|refine zW (by first|exact⟨by decide,by show 0<_;omega⟩|(intro _;exact⟨by decide,by show 0<_;omega⟩)|(rw[par];exact ini om om)|(intro _;rw[par];exact ini om om)|(refine⟨by decide,?_⟩;rw[par];exact ini om om)|(intro _;refine⟨by decide,?_⟩;rw[par];exact ini om om)|exact Fa) ?_)
  refine zC (zA (zU rfl (fun c4=>?_) (fun c4=>?_)))
  ·simp only[par,Aj,Ap]at c4;have c4w:x.a%2=0/\x.b%2=0:=by omega
   refine zB (zE zJ [] 600 rfl ?_);refine zF ?_;refine zQ _ (kO x.a 2 de (by have:=yT x.la;omega)) rfl ?_;refine zf (zA ?_);refine zB (zE zJ [] 700 rfl ?_);refine zF ?_;refine zQ _ (kO x.b 2 de (by have:=yT x.lb;omega)) rfl ?_;refine zf (zA ?_);refine zE zJ [] 800 rfl ?_;repeat(first|refine zH ?_|refine zW (by first|(have:=x.bd;exact ini om om)|exact Fa) ?_)
   refine zC (zN (zN ?_));exact zS (x.two c4w.1 c4w.2 hab.1 ha) ⟨⟨u0 _,u0 _,u21 (by show _=((x.t+1:Nat):Int);push_cast;rfl),yG⟩,yF,rfl,rfl⟩ (by show x.a/2+x.b/2<x.a+x.b;omega)
  ·have c4w:¬(x.a%2=0/\x.b%2=0):=by
    rintro⟨h8,h9⟩;simp only[par,h8,h9]at c4
    cases c4
   refine zB (zE zJ [] 900 rfl ?_);repeat(first|refine zH ?_|refine gH1 ?_)
   refine zC (zA (zU rfl (fun c8=>?_) (fun c8=>?_)))
   ·simp only[par,Ap]at c8;have c8w:x.a%2=0:=by omega
    refine zE zJ [] 1000 rfl ?_;refine zF ?_;refine zQ _ (kO x.a 2 de (by have:=yT x.la;omega)) rfl ?_;refine zf (zN (zN ?_));exact zS (x.ev1 c8w (fun hb=>c4w ⟨c8w,hb⟩)) ⟨⟨u0 _,u0 _,u0 _,yG⟩,yF,rfl,rfl⟩ (by show x.a/2+x.b<x.a+x.b;omega)
   ·simp only[par,Ay]at c8;have c8w:¬x.a%2=0:=by omega
    refine zB (zE zJ [] 1100 rfl ?_);repeat(first|refine zH ?_|refine gH1 ?_)
    refine zC (zA (zU rfl (fun c10=>?_) (fun c10=>?_)))
    ·simp only[par,Ap]at c10;have c10w:x.b%2=0:=by omega
     refine zE zJ [] 1200 rfl ?_;refine zF ?_;refine zQ _ (kO x.b 2 de (by have:=yT x.lb;omega)) rfl ?_;refine zf (zN (zN ?_));exact zS (x.ev2 c8w c10w) ⟨⟨u0 _,u0 _,u0 _,yG⟩,yF,rfl,rfl⟩ (by show x.a+x.b/2<x.a+x.b;omega)
    ·simp only[par,Ay]at c10;have c10w:¬x.b%2=0:=by omega
     refine zB (zE zJ [] 1300 rfl ?_);refine zF ?_;refine zQ _ (uR x.a x.b (by have:=yT x.la;omega) (by have:=yT x.lb;omega)) rfl ?_;refine zF ?_;refine zC (zA (zU rfl (fun c12=>?_) (fun c12=>?_)))
     ·have hge:x.b<=x.a:=by
       rcases Br x.a x.b with h9|h9
       ·rw[xN0 h9]at c12;exact absurd c12 de
       ·exact h9
      refine zE zJ [] 1400 rfl ?_;refine zF ?_;refine zQ _ (xT x.a x.b hge (by have:=yT x.la;omega)) rfl ?_;refine zf (zN (zN ?_));exact zS (x.s1 hge) ⟨⟨u0 _,u0 _,u0 _,yG⟩,yF,rfl,rfl⟩ (by show x.a-x.b+x.b<x.a+x.b;omega)
     ·have hge:¬x.b<=x.a:=by
       intro h9;have h8:0<=cmpN x.a x.b:=by
        rcases Br x.b x.a with h7|h7
        ·rw[qP0 h7];decide
        ·rw[dT0 om];decide
       rw[Bf h8]at c12
       cases c12
      refine zE zJ [] 1400 rfl ?_;refine zF ?_;refine zQ _ (xT x.b x.a om (by have:=yT x.lb;omega)) rfl ?_;refine zf (zN (zN ?_));exact zS (x.s2 om) ⟨⟨u0 _,u0 _,u0 _,yG⟩,yF,rfl,rfl⟩ (by show x.a+(x.b-x.a)<x.a+x.b;omega)
 ·have hab:¬(0<x.a/\0<x.b):=by
   rintro⟨h8,h9⟩;have h1:=(kZ x.a).2 h8;have h2:=(kZ x.b).2 h9;rw[Bf h1,Bf h2]at c2
   cases c2
  refine yE (yA (yB (zY (zA ?_))));have hfn:=x.fin hab;have hbd:=x.bd;refine zB (zE zJ [] 1500 rfl ?_);refine zF ?_;refine zQ _ (vC0 x.a x.b (by have:=yT x.la;omega) (by have:=yT x.lb;omega)) rfl ?_;refine zf (zA (zB (zP ?_)));refine yC (ι:=Cq (Nat.gcd x0 y0)) [] [] 1550 (fun z=>[(5,.v (.int .i64 (z.s:Nat))),(6,qK z.o)]) (fun _=>[]) (fun z=>z.s) ⟨x.t,x.a+x.b,hfn,hbd⟩ ?_;refine⟨⟨yG,yF,rfl,rfl⟩,fun z=>?_⟩;have hzb:=z.bd;refine zB (zK 1600 ?_);refine zU rfl (fun c15=>?_) (fun c15=>?_)
  ·have hz0:0<z.s:=by simpa using c15
   refine zM (zA (zB (zP ?_)));refine zE zJ [] 1800 rfl ?_;refine zF ?_;refine zQ _ (qW0 z.o false (by have h8:=yT z.le;have h9:=zW1 ha hb;omega)) rfl ?_;refine zF ?_;refine zC (zN (zA (yM zJ [] 1900 ?_)));exact zS (z.next hz0) ⟨⟨u21 (by show(z.s:Int)-1=((z.s-1:Nat):Int);omega),u0 _,yG⟩,yF,rfl,rfl⟩ (by show z.s-1<z.s;omega)
  ·have hz0:z.s=0:=by
    have h9:¬0<z.s:=by simpa using c15
    omega
   refine yE (yA (yB (zY (zA (zK 1900 ?_)))));refine zL ?_;have e:=z.eq;rw[hz0,Nat.pow_zero,Nat.mul_one]at e;exact u4 rfl (u9 (congrArg qK e.symm))
def uH(b:Bool)(l:List Nat):Bool:=decide (l.length<=128)&&((decide (l.length=0)&& !b)||(decide (0<l.length)&&decide (l.getD (l.length-1) 0≠0)))
theorem intOk_len{b:Bool}{l:List Nat}(h:uH b l=true):l.length<=128:=by
 unfold uH at h;rw[Aj,Ap]at h;exact h.1
theorem qI1{l:List Nat}(h:Lg l):(dig (VL l)).length<=2*l.length:=by
 refine qB ?_;have:=L_lt h;rw[show 2*l.length=l.length+l.length by omega,Eo,<-Nat.mul_pow];exact this
theorem wT0{b:Bool}{l:List Nat}(hg:Lg l)(h:uH b l=true):(dig (VL l)).length<=256:=by
 have h1:=qI1 hg;have h2:=intOk_len h;omega
def ratS(b1:Bool)(l1:List Nat)(b2:Bool)(l2:List Nat):Bool:=((uH b1 l1&&uH b2 l2)&&(!b2&&decide (0<l2.length)))&&(cmpN (Nat.gcd (VL l1) (VL l2)) 1==0)
theorem wS0(b:Bool)(l:List Nat):(decide ((l.length:Int)<=128)&&((decide ((l.length:Int)=0)&& !b)||(decide (0<(l.length:Int))&& !decide (((l.getD ((l.length:Int)-1).toNat 0:Nat):Int)=0))))=uH b l:=by
 have e:((l.length:Int)-1).toNat=l.length-1:=by omega
 rw[e,uH,Bool.eq_iff_iff];simp;omega
theorem vE0(b:Bool)(l:List Nat)(hl:l.length<=2000000):Fx 121 [.agg [.v (.bool b),usD l]] (.v (.bool (uH b l))):=by
 refine yD zJ Tryz.func121 rfl rfl rfl rfl rfl rfl ?_;intros;refine zK 100 ?_;refine zK 200 ?_;refine zK 300 ?_;refine zL ?_;exact u4 rfl (u7 (wS0 b l))
theorem RatioOk_ok(b1 b2:Bool)(l1 l2:List Nat)(g1:Lg l1)(g2:Lg l2)(n1:l1.length<=2000000)(n2:l2.length<=2000000):Fx 122 [.agg [.v (.bool b1),usD l1,.v (.bool b2),usD l2]] (.v (.bool (ratS b1 l1 b2 l2))):=by
 refine yD zJ Tryz.func122 rfl rfl rfl rfl rfl rfl ?_;intros;refine zK 100 ?_;refine zB ?_;refine zB (zE zJ [] 200 rfl ?_);refine zF ?_;refine zQ _ (vE0 b1 l1 n1) rfl ?_;refine zF ?_;refine yR _ (fun hg7=>vE0 b2 l2 n2) rfl ?_;refine zF ?_;refine zC (zA (zU rfl (fun c1=>?_) (fun c1=>?_)))
 ·
  refine zK 300 ?_;refine zL (zO ?_);exact u4 rfl (u7 (by rw[ratS];have h9:=c1;cases h1:uH b1 l1<;>cases h2:uH b2 l2<;>cases b2<;>simp_all))
 ·have k1:uH b1 l1=true:=by
   cases h9:uH b1 l1 with
   |true=>rfl
   |false=>rw[h9]at c1;simp at c1
  have k2:uH b2 l2=true:=by
   cases h9:uH b2 l2 with
   |true=>rfl
   |false=>rw[h9]at c1;simp at c1
  have d1:=wT0 g1 k1;have d2:=wT0 g2 k2;refine zM (zA ?_);refine zB (zX zJ [] [[],[0],[0,1],[0,1,2],[],[4],[4,5],(rgN 7),(rgN 8),(rgN 9),(rgN 10),(rgN 11),(rgN 12)] 400 yP kr rfl ?_);refine zF ?_;refine zQ _ (qL1 l1 g1 om) rfl ?_;refine zF ?_;refine zQ _ (qL1 l2 g2 om) rfl ?_;refine zF ?_;refine zQ _ (Common3_ok (VL l1) (VL l2) om om) rfl ?_;refine zF ?_;refine zQ _ (dC 1 de de) rfl ?_;refine zF ?_;refine zQ _ (uR (Nat.gcd (VL l1) (VL l2)) 1 (by have:=zW1 d1 d2;omega) (by decide+kernel)) rfl ?_;refine zf (zA (zL ?_));exact u4 rfl (u7 (by rw[ratS,k1,k2];have h9:=c1;rw[k1,k2]at h9;simp at h9⊢;rw[h9.1,Bf (Db.2 h9.2)];exact Bool.eq_iff_iff.2 (by simp)))
end Go.Proofs.YtammfbdgjnkolaaGreatDoor
