/-Part 14 of the proof. -/
import Derived.Test.YtmakjjodkiedmaaGreatDoorM13
namespace Go.Proofs.YtmakjjodkiedmaaGreatDoor
open Go.RowKit
abbrev Fx:=Fn Tryz.prog
variable{md me:Bool}
def nD(n:Nat):List D:=[.v (.int .i64 n)]
def natD(n:Nat):D:= .sl false 1 (dig n) nD 0
structure Trm(l:List Nat)where
 r:List Nat
 dg:Dg r
 eq:V r=V l
 le:r.length<=l.length
theorem last_take{r:List Nat}(h:0<r.length)(h0:r.getD (r.length-1) 0=0):V (r.take (r.length-1))=V r:=by
 have h1:=vC r (r.length-1);rw[h0,show r.length-1+1=r.length by omega,Am (Ap _)]at h1;omega
def Trm.next{l:List Nat}(x:Trm l)(h:0<x.r.length)(h0:x.r.getD (x.r.length-1) 0=0):Trm l:=⟨x.r.take (x.r.length-1),x.dg.take _,by rw[last_take h h0,x.eq],by have:=x.le;simp;omega⟩
theorem Trm.fin{l:List Nat}(x:Trm l)(h:0<x.r.length->x.r.getD (x.r.length-1) 0≠0):x.r=dig (V l):=by
 rw[<-x.eq];refine(dig_V x.dg fun hne=>?_).symm;have hp:0<x.r.length:=List.length_pos_iff.2 hne;rw[List.getLast_eq_getElem,<-vU om];exact h hp
theorem t_cut{α:Type}(r:List α):List.take (((r.length:Int)-1).toNat-Int.toNat 0) (List.drop (Int.toNat 0) r)=r.take (r.length-1):=by
 show List.take _ r=_;congr 1;simp
theorem gT0(r:List Nat):r.getD ((r.length:Int)-1).toNat 0=r.getD (r.length-1) 0:=by congr 1;omega
theorem xH(n i:Nat):(dig n).getD i 0<65536:=by
 rcases Bm i (dig n).length with h|h
 ·rw[vU h];exact(zC0 n).at h
 ·rw[wM h];omega
theorem vO(l:List Nat)(hd:Dg l)(hl:l.length<=1000000000):Fx 169 [.sl false 1 l nD 0] (natD (V l)):=by
 refine yM zO Tryz.func169 rfl rfl rfl rfl rfl rfl ?_;intros;refine zK 100 ?_;refine zB (zQ ?_);refine yB (ι:=Trm l) [] [] 150 (fun x=>[(0,.sl false 1 x.r nD 0)]) (fun _=>[]) (fun x=>x.r.length) ⟨l,hd,rfl,Ap _⟩ ?_;refine⟨⟨yK,yH,rfl,rfl⟩,fun x=>?_⟩;have hk:=x.le;refine zB (zK 200 ?_);refine zX (fun c1=>?_) (fun c1=>?_)
 ·
  refine zJ (zA (zQ (yO zO [] 300 ?_)));refine zL ?_;exact zR (x.next om (by have:=c1.2;rw[gT0]at this;omega)) ⟨(by repeat(first|exact Sub.of_eq (by show D.sl false 1 _ nD 0=_;rw[t_cut];rfl)|refine⟨?_,?_⟩|exact lx)),yH,rfl,rfl⟩ (by show(x.r.take (x.r.length-1)).length<x.r.length;rw[At];omega)
 ·
  refine yF (zZ (yA (zW (zA (zK 400 ?_)))));refine zN ?_;exact u1 rfl (u6 (by show _=D.sl false 1 _ nD 0;rw[<-x.fin fun h e=>by rw[gT0,e,Bo om]at c1;cases c1]))
theorem td_n{e:Int}{s:Nat}(h:e=(s:Int)):Int.tdiv e 65536=((s/65536:Nat):Int):=by rw[h,Int.tdiv_eq_ediv_of_nonneg (by omega)];rfl
theorem tm_n{e:Int}{s:Nat}(h:e=(s:Int)):Int.tmod e 65536=((s%65536:Nat):Int):=by rw[h,Int.tmod_eq_emod_of_nonneg (by omega)];rfl
theorem mY0{e:Int}(h0:0<=e)(h1:e<=4611686018427387904):InI (Int.tdiv e 65536):=by rw[Int.tdiv_eq_ediv_of_nonneg h0];exact ini om om
theorem uC{l:List Nat}{y:Nat}{e:Int}(h:e=(y:Int)):l.map nD++[[.v (.int .i64 e)]]=(l++[y]).map nD:=by rw[Ad,h];rfl
theorem nD_snoc2{l:List Nat}{y z:Nat}{e f:Int}(h:e=(y:Int))(h2:f=(z:Int)):l.map nD++[[.v (.int .i64 e)],[.v (.int .i64 f)]]=(l++[y,z]).map nD:=by rw[Ad,h,h2];rfl
theorem of_lo{d:Nat}(h:d<4294967296):IntKind.i64.wrap (Int.tmod (d:Int) 65536)=((d%65536:Nat):Int):=by
 rw[tm_n rfl,InI.wrap ⟨by omega,by omega⟩]
theorem of_hi{d:Nat}(h:d<4294967296):IntKind.i64.wrap (IntKind.u32.wrap (Int.tdiv (d:Int) 65536))=((d/65536:Nat):Int):=by
 rw[td_n rfl,show IntKind.u32.wrap ((d/65536:Nat):Int)=((d/65536:Nat):Int) by
  simp only[IntKind.wrap,IntKind.signed,IntKind.bits,Bool.false_and,Bw,if_false];omega,InI.wrap ⟨by omega,by omega⟩]
structure Of3(l:List Nat)where
 k:Nat
 o:List Nat
 eq:V o=VL (l.take k)
 lo:o.length=2*k
 dg:Dg o
 le:k<=l.length
def Of3.next{l:List Nat}(x:Of3 l)(hl:Lg l)(h:x.k<l.length):Of3 l:=⟨x.k+1,x.o++[l.getD x.k 0%65536,l.getD x.k 0/65536],by rw[vM h];exact of_step x.eq x.lo h,by simp[x.lo];omega,by rw[vM h];exact of_Dg x.dg (hl.at h),h⟩
structure Sm3(n:Nat)where
 m:Nat
 o:List Nat
 eq:o++dig m=dig n
 le:m<=n
def Sm3.next{n:Nat}(x:Sm3 n)(h:x.m≠0):Sm3 n:=⟨x.m/65536,x.o++[x.m%65536],by rw[<-x.eq,vX h,Co];rfl,by have:=x.le;omega⟩
theorem Sm3.len{n:Nat}(x:Sm3 n)(h:n<18446744073709551616):x.o.length<=4:=by
 have h1:(dig n).length<=4:=qL (k:=4) om;rw[<-x.eq,Ae]at h1;omega
structure Cp3(a b:Nat)where
 k:Nat
 le:k<=(dig a).length
 eq:(dig a).drop k=(dig b).drop k
def Cp3.next{a b:Nat}(x:Cp3 a b)(hl:(dig a).length=(dig b).length)(h:0<x.k)(he:(dig a).getD (x.k-1) 0=(dig b).getD (x.k-1) 0):Cp3 a b:=⟨x.k-1,by have:=x.le;omega,by
 have h1:=x.le;rw[vU om,vU om]at he;rw[Dk om,Dk (l:=dig b) om,he,show x.k-1+1=x.k by omega,x.eq]⟩
theorem pN0{a b k:Nat}(hl:(dig a).length=(dig b).length)(hk:0<k)(hk2:k<=(dig a).length)(hd:(dig a).drop k=(dig b).drop k)(h:(dig a).getD (k-1) 0<(dig b).getD (k-1) 0):a<b:=by
 rw[vU om,vU om]at h;have:=lt_at (zC0 a) hl (i:=k-1) om (by rw[show k-1+1=k by omega];exact hd) h
 rwa[gO,gO]at this
theorem jO0{a b:Nat}(h:a<b):cmpN a b= -1:=Ag h
theorem zF0{a b:Nat}(h:b<a):cmpN a b=1:=by rw[cmpN,Aa (by omega),Ag h]
theorem xG0{a b:Nat}(h:a=b):cmpN a b=0:=by rw[cmpN,Aa (by omega),Aa (by omega)]
structure Pl3(a b:Nat)where
 k:Nat
 c:Nat
 o:List Nat
 eq:V o+c*65536^k=V ((dig a).take k)+V ((dig b).take k)
 lo:o.length=k
 dg:Dg o
 hc:c<=1
 le:k<=(dig a).length+(dig b).length+1
def Pl3.s{a b:Nat}(x:Pl3 a b):Nat:=x.c+(dig a).getD x.k 0+(dig b).getD x.k 0
def Pl3.next{a b:Nat}(x:Pl3 a b)(h:x.k<(dig a).length\/x.k<(dig b).length\/0<x.c):Pl3 a b:=⟨x.k+1,x.s/65536,x.o++[x.s%65536],plus_step x.eq x.lo rfl,by simp[x.lo],x.dg.snoc (Nat.mod_lt _ de),by
 have h1:=xH a x.k;have h2:=xH b x.k;have h3:=x.hc;unfold Pl3.s;omega,by
 rcases h with h|h|h
 ·omega
 ·omega
 ·have:=plus_in (zC0 a) (zC0 b) x.eq h;omega⟩
theorem Pl3.fin{a b:Nat}(x:Pl3 a b)(h1:(dig a).length<=x.k)(h2:(dig b).length<=x.k)(h3:x.c=0):V x.o=a+b:=by
 have:=plus_done (by rw[<-h3];exact x.eq) h1 h2
 rwa[gO,gO]at this
structure Mi3(a b:Nat)where
 k:Nat
 c:Nat
 o:List Nat
 eq:V o+V ((dig b).take k)=V ((dig a).take k)+c*65536^k
 lo:o.length=k
 dg:Dg o
 hc:c<=1
 le:k<=(dig a).length
def Mi3.next{a b:Nat}(x:Mi3 a b)(h:x.k<(dig a).length)(y d:Nat)(hy:y+(dig b).getD x.k 0+x.c=(dig a).getD x.k 0+65536*d)(h2:y<65536)(h3:d<=1):Mi3 a b:=⟨x.k+1,d,x.o++[y],minus_step x.eq x.lo h (by rw[<-vU h];exact hy),by simp[x.lo],x.dg.snoc h2,h3,h⟩
theorem Mi3.fin{a b:Nat}(x:Mi3 a b)(h:(dig a).length<=x.k)(hle:b<=a):V x.o=a-b:=by
 have hk:=x.le;have e:x.k=(dig a).length:=by omega
 have h1:=x.eq;rw[e]at h1;have:=minus_done x.dg (by rw[x.lo,e]) h1 (by rw[gO,gO];exact hle) (yW hle)
 rwa[gO,gO]at this
theorem xR0(l:List Nat)(hg:Lg l)(hl:l.length<=100000000):Fx 133 [usD l] (natD (VL l)):=by
 refine yM zO Tryz.func133 rfl rfl rfl rfl rfl rfl ?_;intros;refine zK 100 ?_;refine zK 200 ?_;refine yU 3 3 1 rfl ?_;refine zB (zK 300 ?_);refine zQ ?_;refine yB (ι:=Of3 l) [0] [] 350 (fun x=>[(4,.v (.int .i64 (x.k:Nat))),(3,.own 200 1 (x.o.map nD))]) (fun x=>[(200,.row 3 1 (x.o.map nD).length)]) (fun x=>l.length-x.k) ⟨0,[],by simp[VL,V],rfl,Dg.nil,Aq _⟩ ?_;refine⟨⟨yK,yH,rfl,rfl⟩,fun x=>?_⟩;have hk:=x.le;have hk2:=x.lo;refine zB (zK 400 ?_);refine zX (fun c3=>?_) (fun c3=>?_)
 ·
  refine zJ (zA (zB (zQ ?_)));refine yE zO [] [[],[],[],[1,2],[1,2,3],[1,2,3,4],[1,2,3,4,5],[],[],[7,8],[7,8,9],[7,8,9,10],[7,8,9,10,11],[1,2,3,4,5,6,7,8,9,10,11,12],(rgN 14),(rgN 15)] 600 yX kr rfl ?_;refine zF ?_;refine zC (zL (zA (yO zO [] 700 ?_)));have hx:=vM c3;have hx2:=hg.at c3;exact zR (x.next hg c3) ⟨(by repeat(first|exact u19 (by show(x.k:Int)+1=((x.k+1:Nat):Int);omega)|exact Sub.own (nD_snoc2 (of_lo (by rw[As,hx];exact hx2)) (of_hi (by rw[As,hx];exact hx2)))|refine⟨?_,?_⟩|exact lx)),(by repeat(first|exact trivial|exact u13 rfl|exact⟨rfl,rfl,by show _=(List.map nD (x.o++_)).length;simp⟩|refine⟨?_,?_⟩)),rfl,rfl⟩ (by show l.length-(x.k+1)<l.length-x.k;omega)
 ·
  refine yF (zZ (yA (zW (zA ?_))));refine jJ [] [] 410 [(3,.sl false 1 x.o nD 0)] [] ?_;refine⟨⟨⟨u3 rfl,trivial⟩,yH,rfl,rfl⟩,?_⟩;refine zB (zE zO [] 700 rfl ?_);refine zF ?_;refine zS _ (vO _ x.dg (by rw[hk2];omega)) rfl ?_;refine zf (zA (zN ?_));exact u1 rfl (u6 (by rw[x.eq,Am om]))
theorem Small3_ok(n:Int)(h1:0<=n)(h2:n<=9223372036854775807):Fx 152 [.v (.int .i64 n)] (natD n.toNat):=by
 refine yM zO Tryz.func152 rfl rfl rfl rfl rfl rfl ?_;intros;refine zK 100 ?_;refine zK 200 ?_;refine yU 3 3 1 rfl ?_;refine zB (zQ ?_);refine yB (ι:=Sm3 n.toNat) [] [] 250 (fun x=>[(0,.v (.int .i64 (x.m:Nat))),(3,.own 200 1 (x.o.map nD))]) (fun x=>[(200,.row 3 1 (x.o.map nD).length)]) (fun x=>x.m) ⟨n.toNat,[],rfl,Ap _⟩ ?_;refine⟨⟨(by repeat(first|exact u19 (Int.toNat_of_nonneg h1).symm|refine⟨?_,?_⟩|exact lx)),yH,rfl,rfl⟩,fun x=>?_⟩;have hk:=x.le;have hk2:=x.len om;refine zB (zK 300 ?_);refine zX (fun c2=>?_) (fun c2=>?_)
 ·
  refine zJ (zA (zB (zQ (yO zO [] 500 ?_))));refine zL (zA ?_);refine zE zO [] 600 rfl ?_;repeat(first|refine zH ?_|refine zU (by first|(refine⟨by decide,?_⟩;rw[td_n rfl];exact ini om om)|(rw[td_n rfl];exact ini om om)|exact Dl) ?_)
  refine zC ?_;exact zR (x.next (by omega)) ⟨(by repeat(first|exact u19 (td_n rfl)|exact Sub.own (uC (tm_n rfl))|refine⟨?_,?_⟩|exact lx)),(by repeat(first|exact trivial|exact u13 rfl|exact⟨rfl,rfl,by show _=(List.map nD (x.o++_)).length;simp⟩|refine⟨?_,?_⟩)),rfl,rfl⟩ (by show x.m/65536<x.m;omega)
 ·
  refine yF (zZ (yA (zW (zA (zK 600 ?_)))));refine zN ?_;exact u1 rfl (SubP.ownSl (by have h0:=x.eq;rw[show x.m=0 by omega,jM,Ca]at h0;rw[h0]))
theorem uU(a b:Nat)(ha:(dig a).length<=100000000)(hb:(dig b).length<=100000000):Fx 131 [natD a,natD b] (.v (.int .i64 (cmpN a b))):=by
 refine yM zO Tryz.func131 rfl rfl rfl rfl rfl rfl ?_;intros;refine zK 100 ?_;refine zB (zK 200 ?_);refine zX (fun c1=>?_) (fun c1=>?_)
 ·
  refine zB (zK 300 ?_);refine zX (fun c2=>?_) (fun c2=>?_)
  ·
   refine zK 400 ?_;refine zN (zM (zM ?_));exact u1 rfl (u7 (jO0 (kR om)).symm)
  ·
   refine zJ (zA (zK 500 ?_));refine zN (zM ?_);exact u1 rfl (u7 (zF0 (kR om)).symm)
 ·
  refine zJ (zA (zB (zK 600 ?_)));refine zQ ?_;refine yB (ι:=Cp3 a b) [0,1] [] 650 (fun x=>[(5,.v (.int .i64 ((x.k:Int)-1)))]) (fun _=>[]) (fun x=>x.k) ⟨(dig a).length,Ap _,by rw[Bq (Ap _),Bq om]⟩ ?_;refine⟨⟨yK,yH,rfl,rfl⟩,fun x=>?_⟩;have hk:=x.le;have hkt:((x.k:Int)-1).toNat=x.k-1:=by omega
  refine zB (zK 700 ?_);refine zX (fun c6=>?_) (fun c6=>?_)
  ·
   refine zJ (zA (zB (zQ (zB ?_))));refine zB (yE zO [] mK1 900 yX kr rfl ?_);refine zF ?_;refine zC (zA (zX (fun c8=>?_) (fun c8=>?_)))
   ·
    refine zK 1000 ?_;refine zN (zM (zP (zM (yL (zP (zM ?_))))));rw[hkt]at c8;exact u1 rfl (u7 (jO0 (pN0 om om hk x.eq om)).symm)
   ·
    refine zJ (zA ?_);refine zB (yE zO [] mK1 1100 yX kr rfl ?_);refine zF ?_;refine zC (zA (zX (fun c10=>?_) (fun c10=>?_)))
    ·
     refine zK 1200 ?_;refine zN (zP (zM (yL (zP (zM ?_)))));rw[hkt]at c10;exact u1 rfl (u7 (zF0 (pN0 om om om x.eq.symm om)).symm)
    ·
     refine zJ (zL (zA (yO zO [] 1200 ?_)));rw[hkt]at c8 c10;exact zR (x.next (by omega) (by omega) (by omega)) ⟨(by repeat(first|exact u19 (by show(x.k:Int)-1-1=((x.k-1:Nat):Int)-1;omega)|refine⟨?_,?_⟩|exact lx)),yH,rfl,rfl⟩ (by show x.k-1<x.k;omega)
  ·
   refine yF (zZ (yA (zW (zA (zK 1300 ?_)))));refine zN ?_;have hz:x.k=0:=by omega
   have he:=x.eq;rw[hz]at he;exact u1 rfl (u7 (xG0 (by have:=congrArg V he;rwa[List.drop_zero,List.drop_zero,gO,gO]at this)).symm)
theorem zS0{P:Program}{E:Pn}{K:DS->Prop}{p:Prop}{r:Out}(hr:r.sat P E K)(hp:p:=by first|exact trivial|omega|exact ini (by omega) (by omega)|(intro hh;simp at hh;exact ini om om)|(intro hh;simp at hh⊢;omega)|(simp at*;omega)|(simp_all;done)|(simp only[As];exact ini om om)):(Out.need p r).sat P E K:=⟨hp,hr⟩
theorem uM0{P:Program}{E:Pn}{K:DS->Prop}{p:Prop}{r:Out}(hr:r.sat P E K)(hp:p:=by first|exact⟨by decide,mY0 (by(try simp only[As]);omega) (by(try simp only[As]);omega)⟩|exact mY0 (by(try simp only[As]);omega) (by(try simp only[As]);omega)|exact Dl):(Out.need p r).sat P E K:=⟨hp,hr⟩
theorem uI0(a b:Nat)(ha:(dig a).length<=100000000)(hb:(dig b).length<=100000000):Fx 134 [natD a,natD b] (natD (a+b)):=by
 refine yM zO Tryz.func134 rfl rfl rfl rfl rfl rfl ?_;intros;refine zK 100 ?_;refine zK 200 ?_;refine yU 5 3 1 rfl ?_;refine zK 300 ?_;refine zB (zK 400 ?_);refine zQ ?_;refine yB (ι:=Pl3 a b) [0,1] [] 450 (fun x=>[(7,.v (.int .i64 (x.k:Nat))),(6,.v (.int .i64 (x.c:Nat))),(5,.own 200 1 (x.o.map nD))]) (fun x=>[(200,.row 3 1 (x.o.map nD).length)]) (fun x=>(dig a).length+(dig b).length+2-x.k) ⟨0,0,[],by simp[V],rfl,Dg.nil,by omega,by omega⟩ ?_;refine⟨⟨yK,yH,rfl,rfl⟩,fun x=>?_⟩;have hk:=x.le;have hk2:=x.lo;have hk3:=x.hc;have hk4:=xH a x.k;have hk5:=xH b x.k;refine zB (zK 500 ?_);refine zX (fun c4=>?_) (fun c4=>?_)
 ·
  refine zJ (zA (zB (zQ (zB (zK 700 ?_)))));refine zX (fun c6=>?_) (fun c6=>?_)
  ·
   refine zE zO [] 800 rfl ?_;repeat(first|refine zH ?_|refine zS0 ?_)
   refine zC (zA (zB (zK 900 ?_)));refine zX (fun c8=>?_) (fun c8=>?_)
   ·
    refine zE zO [] 1000 rfl ?_;repeat(first|refine zH ?_|refine zS0 ?_)
    refine zC (zA (zK 1100 ?_));refine zE zO [] 1200 rfl ?_;repeat(first|refine zH ?_|refine uM0 ?_)
    refine zC (zL (zA (yO zO [] 1300 ?_)));exact zR (x.next (by omega)) ⟨(by repeat(first|exact u19 (by show(x.k:Int)+1=((x.k+1:Nat):Int);omega)|exact u19 (td_n (by show _=((x.c+(dig a).getD x.k 0+(dig b).getD x.k 0:Nat):Int);(try simp only[As]);omega))|exact Sub.own (uC (tm_n (by show _=((x.c+(dig a).getD x.k 0+(dig b).getD x.k 0:Nat):Int);(try simp only[As]);omega)))|refine⟨?_,?_⟩|exact lx)),(by repeat(first|exact trivial|exact u13 rfl|exact⟨rfl,rfl,by show _=(List.map nD (x.o++_)).length;simp⟩|refine⟨?_,?_⟩)),rfl,rfl⟩ (by show(dig a).length+(dig b).length+2-(x.k+1)<(dig a).length+(dig b).length+2-x.k;omega)
   ·
    refine zJ (zA (zK 1100 ?_));refine zE zO [] 1200 rfl ?_;repeat(first|refine zH ?_|refine uM0 ?_)
    refine zC (zL (zA (yO zO [] 1300 ?_)));have zb:(dig b).getD x.k 0=0:=wM om;exact zR (x.next (by omega)) ⟨(by repeat(first|exact u19 (by show(x.k:Int)+1=((x.k+1:Nat):Int);omega)|exact u19 (td_n (by show _=((x.c+(dig a).getD x.k 0+(dig b).getD x.k 0:Nat):Int);(try simp only[As]);omega))|exact Sub.own (uC (tm_n (by show _=((x.c+(dig a).getD x.k 0+(dig b).getD x.k 0:Nat):Int);(try simp only[As]);omega)))|refine⟨?_,?_⟩|exact lx)),(by repeat(first|exact trivial|exact u13 rfl|exact⟨rfl,rfl,by show _=(List.map nD (x.o++_)).length;simp⟩|refine⟨?_,?_⟩)),rfl,rfl⟩ (by show(dig a).length+(dig b).length+2-(x.k+1)<(dig a).length+(dig b).length+2-x.k;omega)
  ·
   refine zJ (zA (zB (zK 900 ?_)));refine zX (fun c8=>?_) (fun c8=>?_)
   ·
    refine zE zO [] 1000 rfl ?_;repeat(first|refine zH ?_|refine zS0 ?_)
    refine zC (zA (zK 1100 ?_));refine zE zO [] 1200 rfl ?_;repeat(first|refine zH ?_|refine uM0 ?_)
    refine zC (zL (zA (yO zO [] 1300 ?_)));have za:(dig a).getD x.k 0=0:=wM om;exact zR (x.next (by omega)) ⟨(by repeat(first|exact u19 (by show(x.k:Int)+1=((x.k+1:Nat):Int);omega)|exact u19 (td_n (by show _=((x.c+(dig a).getD x.k 0+(dig b).getD x.k 0:Nat):Int);(try simp only[As]);omega))|exact Sub.own (uC (tm_n (by show _=((x.c+(dig a).getD x.k 0+(dig b).getD x.k 0:Nat):Int);(try simp only[As]);omega)))|refine⟨?_,?_⟩|exact lx)),(by repeat(first|exact trivial|exact u13 rfl|exact⟨rfl,rfl,by show _=(List.map nD (x.o++_)).length;simp⟩|refine⟨?_,?_⟩)),rfl,rfl⟩ (by show(dig a).length+(dig b).length+2-(x.k+1)<(dig a).length+(dig b).length+2-x.k;omega)
   ·
    refine zJ (zA (zK 1100 ?_));refine zE zO [] 1200 rfl ?_;repeat(first|refine zH ?_|refine uM0 ?_)
    refine zC (zL (zA (yO zO [] 1300 ?_)));have za:(dig a).getD x.k 0=0:=wM om;have zb:(dig b).getD x.k 0=0:=wM om;exact zR (x.next (by omega)) ⟨(by repeat(first|exact u19 (by show(x.k:Int)+1=((x.k+1:Nat):Int);omega)|exact u19 (td_n (by show _=((x.c+(dig a).getD x.k 0+(dig b).getD x.k 0:Nat):Int);(try simp only[As]);omega))|exact Sub.own (uC (tm_n (by show _=((x.c+(dig a).getD x.k 0+(dig b).getD x.k 0:Nat):Int);(try simp only[As]);omega)))|refine⟨?_,?_⟩|exact lx)),(by repeat(first|exact trivial|exact u13 rfl|exact⟨rfl,rfl,by show _=(List.map nD (x.o++_)).length;simp⟩|refine⟨?_,?_⟩)),rfl,rfl⟩ (by show(dig a).length+(dig b).length+2-(x.k+1)<(dig a).length+(dig b).length+2-x.k;omega)
 ·
  refine yF (zZ (yA (zW (zA ?_))));refine jJ [] [] 510 [(5,.sl false 1 x.o nD 0)] [] ?_;refine⟨⟨⟨u3 rfl,trivial⟩,yH,rfl,rfl⟩,?_⟩;refine zB (zE zO [] 1300 rfl ?_);refine zF ?_;refine zS _ (vO _ x.dg (by rw[hk2];omega)) rfl ?_;refine zf (zA (zN ?_));exact u1 rfl (u6 (by rw[x.fin om om om]))
theorem pI0{P:Program}{E:Pn}{K:DS->Prop}{p:Prop}{r:Out}(hr:r.sat P E K)(hp:p:=by first|exact trivial|omega|exact ini (by omega) (by omega)|(intro hh;simp at hh;exact ini om om)|(intro hh;simp at hh⊢;omega)|(simp at*;omega)|(simp_all;done)|(simp only[As]at*;exact ini om om)):(Out.need p r).sat P E K:=⟨hp,hr⟩
theorem gS(a b:Nat)(hle:b<=a)(ha:(dig a).length<=100000000):Fx 135 [natD a,natD b] (natD (a-b)):=by
 refine yM zO Tryz.func135 rfl rfl rfl rfl rfl rfl ?_;intros;refine zK 100 ?_;refine zK 200 ?_;refine yU 5 3 1 rfl ?_;refine zK 300 ?_;refine zB (zK 400 ?_);refine zQ ?_;refine yB (ι:=Mi3 a b) [0,1] [] 450 (fun x=>[(7,.v (.int .i64 (x.k:Nat))),(6,.v (.int .i64 (x.c:Nat))),(5,.own 200 1 (x.o.map nD))]) (fun x=>[(200,.row 3 1 (x.o.map nD).length)]) (fun x=>(dig a).length-x.k) ⟨0,0,[],by simp[V],rfl,Dg.nil,by omega,by omega⟩ ?_;refine⟨⟨yK,yH,rfl,rfl⟩,fun x=>?_⟩;have hk:=x.le;have hk2:=x.lo;have hk3:=x.hc;have hk4:=xH a x.k;have hk5:=xH b x.k;refine zB (zK 500 ?_);refine zX (fun c4=>?_) (fun c4=>?_)
 ·
  refine zJ (zA (zB (zQ ?_)));refine zB (zE zO [] 700 rfl ?_);repeat(first|refine zH ?_|refine zS0 ?_)
  refine zC (zA (zB (zK 800 ?_)));refine zX (fun c7=>?_) (fun c7=>?_)
  ·
   refine zE zO [] 900 rfl ?_;repeat(first|refine zH ?_|refine zS0 ?_)
   refine zC (zA (zK 1000 ?_));refine zB (zK 1100 ?_);refine zX (fun c10=>?_) (fun c10=>?_)
   ·
    refine zB (zE zO [] 1200 rfl ?_);repeat(first|refine zH ?_|refine pI0 ?_)
    refine zC (zA (yO zO [] 1300 ?_));refine zA (yO zO [] 1400 ?_);refine zL (zA (yO zO [] 1500 ?_));try simp only[As]at c10
    exact zR (x.next (by omega) ((dig a).getD x.k 0+65536-x.c-(dig b).getD x.k 0) 1 (by omega) (by omega) (by omega)) ⟨(by repeat(first|exact u19 (by show(x.k:Int)+1=((x.k+1:Nat):Int);omega)|exact Sub.own (uC (by(try simp only[As]);omega))|refine⟨?_,?_⟩|exact lx)),(by repeat(first|exact trivial|exact u13 rfl|exact⟨rfl,rfl,by show _=(List.map nD (x.o++_)).length;simp⟩|refine⟨?_,?_⟩)),rfl,rfl⟩ (by show(dig a).length-(x.k+1)<(dig a).length-x.k;omega)
   ·
    refine zJ (zA (yO zO [] 1400 ?_));refine zL (zA (yO zO [] 1500 ?_));try simp only[As]at c10
    exact zR (x.next (by omega) ((dig a).getD x.k 0+0-x.c-(dig b).getD x.k 0) 0 (by omega) (by omega) (by omega)) ⟨(by repeat(first|exact u19 (by show(x.k:Int)+1=((x.k+1:Nat):Int);omega)|exact Sub.own (uC (by(try simp only[As]);omega))|refine⟨?_,?_⟩|exact lx)),(by repeat(first|exact trivial|exact u13 rfl|exact⟨rfl,rfl,by show _=(List.map nD (x.o++_)).length;simp⟩|refine⟨?_,?_⟩)),rfl,rfl⟩ (by show(dig a).length-(x.k+1)<(dig a).length-x.k;omega)
  ·
   refine zJ (zA (zK 1000 ?_));refine zB (zK 1100 ?_);refine zX (fun c10=>?_) (fun c10=>?_)
   ·
    refine zB (zE zO [] 1200 rfl ?_);repeat(first|refine zH ?_|refine pI0 ?_)
    refine zC (zA (yO zO [] 1300 ?_));refine zA (yO zO [] 1400 ?_);refine zL (zA (yO zO [] 1500 ?_));try simp only[As]at c10
    have zb:(dig b).getD x.k 0=0:=wM om;exact zR (x.next (by omega) ((dig a).getD x.k 0+65536-x.c-(dig b).getD x.k 0) 1 (by omega) (by omega) (by omega)) ⟨(by repeat(first|exact u19 (by show(x.k:Int)+1=((x.k+1:Nat):Int);omega)|exact Sub.own (uC (by(try simp only[As]);omega))|refine⟨?_,?_⟩|exact lx)),(by repeat(first|exact trivial|exact u13 rfl|exact⟨rfl,rfl,by show _=(List.map nD (x.o++_)).length;simp⟩|refine⟨?_,?_⟩)),rfl,rfl⟩ (by show(dig a).length-(x.k+1)<(dig a).length-x.k;omega)
   ·
    refine zJ (zA (yO zO [] 1400 ?_));refine zL (zA (yO zO [] 1500 ?_));try simp only[As]at c10
    have zb:(dig b).getD x.k 0=0:=wM om;exact zR (x.next (by omega) ((dig a).getD x.k 0+0-x.c-(dig b).getD x.k 0) 0 (by omega) (by omega) (by omega)) ⟨(by repeat(first|exact u19 (by show(x.k:Int)+1=((x.k+1:Nat):Int);omega)|exact Sub.own (uC (by(try simp only[As]);omega))|refine⟨?_,?_⟩|exact lx)),(by repeat(first|exact trivial|exact u13 rfl|exact⟨rfl,rfl,by show _=(List.map nD (x.o++_)).length;simp⟩|refine⟨?_,?_⟩)),rfl,rfl⟩ (by show(dig a).length-(x.k+1)<(dig a).length-x.k;omega)
 ·
  refine yF (zZ (yA (zW (zA ?_))));refine jJ [] [] 510 [(5,.sl false 1 x.o nD 0)] [] ?_;refine⟨⟨⟨u3 rfl,trivial⟩,yH,rfl,rfl⟩,?_⟩;refine zB (zE zO [] 1500 rfl ?_);refine zF ?_;refine zS _ (vO _ x.dg (by rw[hk2];omega)) rfl ?_;refine zf (zA (zN ?_));exact u1 rfl (u6 (by rw[x.fin om hle]))
structure Db3(a one:Nat)where
 k:Nat
 c:Nat
 o:List Nat
 eq:V o+c*65536^k=2*V ((dig a).take k)+one
 lo:o.length=k
 dg:Dg o
 hc:c<=1
 le:k<=(dig a).length
def Db3.s{a one:Nat}(x:Db3 a one):Nat:=2*(dig a).getD x.k 0+x.c
def Db3.next{a one:Nat}(x:Db3 a one)(h:x.k<(dig a).length):Db3 a one:=⟨x.k+1,x.s/65536,x.o++[x.s%65536],double_step x.eq x.lo h (by unfold Db3.s;rw[vU h]),by simp[x.lo],x.dg.snoc (Nat.mod_lt _ de),by
 have h1:=xH a x.k;have h3:=x.hc;unfold Db3.s;omega,h⟩
theorem Db3.fin{a one:Nat}(x:Db3 a one)(h:(dig a).length<=x.k):V (x.o++[x.c])=2*a+one:=by
 have h1:=x.eq;rw[Am h,gO]at h1;rw[dA,x.lo,Cf];exact h1
theorem Db3.fin0{a one:Nat}(x:Db3 a one)(h:(dig a).length<=x.k)(h0:x.c=0):V x.o=2*a+one:=by
 have h1:=x.fin h;rw[dA,h0]at h1;exact h1
theorem Double3_ok(a:Nat)(one:Bool)(ha:(dig a).length<=10000000):Fx 180 [natD a,.v (.bool one)] (natD (2*a+one.toNat)):=by
 have hon:one.toNat<=1:=by cases one<;>decide
 refine yM zO Tryz.func180 rfl rfl rfl rfl rfl rfl ?_;intros;refine zK 100 ?_;refine zK 200 ?_;refine zB (zK 300 ?_);refine zX (fun c2=>?_) (fun c2=>?_)
 ·
  refine yO zO [] 400 ?_;refine zA (zK 500 ?_);refine yU 6 3 1 rfl ?_;refine zB (zK 600 ?_);refine zQ ?_;refine yB (ι:=Db3 a one.toNat) [0] [] 650 (fun x=>[(7,.v (.int .i64 (x.k:Nat))),(5,.v (.int .i64 (x.c:Nat))),(6,.own 500 1 (x.o.map nD))]) (fun x=>[(500,.row 3 1 (x.o.map nD).length)]) (fun x=>(dig a).length-x.k) ⟨0,one.toNat,[],by simp[V],rfl,Dg.nil,hon,by omega⟩ ?_;refine⟨⟨(by repeat(first|exact u19 (by show _=((one.toNat:Nat):Int);rw[c2];rfl)|refine⟨?_,?_⟩|exact lx)),yH,rfl,rfl⟩,fun x=>?_⟩;have hk:=x.le;have hk2:=x.lo;have hk3:=x.hc;have hk4:=xH a x.k;refine zB (zK 700 ?_);refine zX (fun c6=>?_) (fun c6=>?_)
  ·
   refine zJ (zA (zB (zQ ?_)));refine zB (zE zO [] 900 rfl ?_);repeat(first|refine zH ?_|refine zS0 ?_)
   refine zC (zA (zK 1000 ?_));refine zE zO [] 1100 rfl ?_;repeat(first|refine zH ?_|refine uM0 ?_)
   refine zC (zL (zA (yO zO [] 1200 ?_)));exact zR (x.next (by omega)) ⟨(by repeat(first|exact u19 (by show(x.k:Int)+1=((x.k+1:Nat):Int);omega)|exact u19 (td_n (by show _=((2*(dig a).getD x.k 0+x.c:Nat):Int);(try simp only[As]);omega))|exact Sub.own (uC (tm_n (by show _=((2*(dig a).getD x.k 0+x.c:Nat):Int);(try simp only[As]);omega)))|refine⟨?_,?_⟩|exact lx)),(by repeat(first|exact trivial|exact u13 rfl|exact⟨rfl,rfl,by show _=(List.map nD (x.o++_)).length;simp⟩|refine⟨?_,?_⟩)),rfl,rfl⟩ (by show(dig a).length-(x.k+1)<(dig a).length-x.k;omega)
  ·
   refine yF (zZ (yA (zW (zA (zB (zK 1200 ?_))))));refine zX (fun c11=>?_) (fun c11=>?_)
   ·
    refine yO zO [] 1300 ?_;refine zA ?_;refine zB (zE zO [] 1400 rfl ?_);refine zF ?_;refine zS _ ((vO (x.o++[x.c]) (x.dg.snoc om) (by have:=hk2;simp<;>omega)).args ⟨SubP.ownSl (uC rfl),trivial⟩) rfl ?_
    refine zf (zA (zN ?_));exact u1 rfl (u6 (by rw[x.fin om]))
   ·
    refine zJ (zA ?_);refine zB (zE zO [] 1400 rfl ?_);refine zF ?_;refine zS _ ((vO _ x.dg (by rw[hk2];omega)).args ⟨SubP.ownSl rfl,trivial⟩) rfl ?_;refine zf (zA (zN ?_));exact u1 rfl (u6 (by rw[x.fin0 om om]))
 ·
  refine zJ (zA (zK 500 ?_));refine yU 6 3 1 rfl ?_;refine zB (zK 600 ?_);refine zQ ?_;refine yB (ι:=Db3 a one.toNat) [0] [] 650 (fun x=>[(7,.v (.int .i64 (x.k:Nat))),(5,.v (.int .i64 (x.c:Nat))),(6,.own 500 1 (x.o.map nD))]) (fun x=>[(500,.row 3 1 (x.o.map nD).length)]) (fun x=>(dig a).length-x.k) ⟨0,one.toNat,[],by simp[V],rfl,Dg.nil,hon,by omega⟩ ?_;refine⟨⟨(by repeat(first|exact u19 (by show _=((one.toNat:Nat):Int);rw[c2];rfl)|refine⟨?_,?_⟩|exact lx)),yH,rfl,rfl⟩,fun x=>?_⟩;have hk:=x.le;have hk2:=x.lo;have hk3:=x.hc;have hk4:=xH a x.k;refine zB (zK 700 ?_);refine zX (fun c6=>?_) (fun c6=>?_)
  ·
   refine zJ (zA (zB (zQ ?_)));refine zB (zE zO [] 900 rfl ?_);repeat(first|refine zH ?_|refine zS0 ?_)
   refine zC (zA (zK 1000 ?_));refine zE zO [] 1100 rfl ?_;repeat(first|refine zH ?_|refine uM0 ?_)
   refine zC (zL (zA (yO zO [] 1200 ?_)));exact zR (x.next (by omega)) ⟨(by repeat(first|exact u19 (by show(x.k:Int)+1=((x.k+1:Nat):Int);omega)|exact u19 (td_n (by show _=((2*(dig a).getD x.k 0+x.c:Nat):Int);(try simp only[As]);omega))|exact Sub.own (uC (tm_n (by show _=((2*(dig a).getD x.k 0+x.c:Nat):Int);(try simp only[As]);omega)))|refine⟨?_,?_⟩|exact lx)),(by repeat(first|exact trivial|exact u13 rfl|exact⟨rfl,rfl,by show _=(List.map nD (x.o++_)).length;simp⟩|refine⟨?_,?_⟩)),rfl,rfl⟩ (by show(dig a).length-(x.k+1)<(dig a).length-x.k;omega)
  ·
   refine yF (zZ (yA (zW (zA (zB (zK 1200 ?_))))));refine zX (fun c11=>?_) (fun c11=>?_)
   ·
    refine yO zO [] 1300 ?_;refine zA ?_;refine zB (zE zO [] 1400 rfl ?_);refine zF ?_;refine zS _ ((vO (x.o++[x.c]) (x.dg.snoc om) (by have:=hk2;simp<;>omega)).args ⟨SubP.ownSl (uC rfl),trivial⟩) rfl ?_
    refine zf (zA (zN ?_));exact u1 rfl (u6 (by rw[x.fin om]))
   ·
    refine zJ (zA ?_);refine zB (zE zO [] 1400 rfl ?_);refine zF ?_;refine zS _ ((vO _ x.dg (by rw[hk2];omega)).args ⟨SubP.ownSl rfl,trivial⟩) rfl ?_;refine zf (zA (zN ?_));exact u1 rfl (u6 (by rw[x.fin0 om om]))
theorem V_at{l:List Nat}{j:Nat}(h:j<l.length):V (l.drop j)=l.getD j 0+65536*V (l.drop (j+1)):=by
 rw[Dk h,Aj,Af h];rfl
structure Hv(a q:Nat)where
 j:Nat
 o:List Nat
 r:Nat
 lo:o.length=(dig a).length
 le:j<=(dig a).length
 dg:Dg o
 eq:V (o.drop j)=V ((dig a).drop j)/q
 re:r=V ((dig a).drop j)%q
def Hv.t{a q:Nat}(x:Hv a q):Nat:=x.r*65536+(dig a).getD (x.j-1) 0
theorem Hv.t_lt{a q:Nat}(x:Hv a q)(hq:0<q):x.t<q*65536:=by
 have h1:=xH a (x.j-1);have h2:=x.re;have h3:=Nat.mod_lt (V ((dig a).drop x.j)) hq;unfold Hv.t;omega
theorem Hv.st{a q:Nat}(x:Hv a q)(h:0<x.j):V ((dig a).drop (x.j-1))=x.t+q*(65536*(V ((dig a).drop x.j)/q)):=by
 have hle:=x.le;have e1:=V_at (l:=dig a) (j:=x.j-1) om;rw[e1,show x.j-1+1=x.j by omega];have h2:=x.re;have h3:=Nat.div_add_mod (V ((dig a).drop x.j)) q;unfold Hv.t;rw[Nat.mul_left_comm q 65536];generalize q*(V ((dig a).drop x.j)/q)=P at*;omega
def Hv.next{a q:Nat}(x:Hv a q)(hq:0<q)(h:0<x.j):Hv a q:=⟨x.j-1,x.o.set (x.j-1) (x.t/q),x.t%q,by rw[Ck];exact x.lo,by have:=x.le;omega,by
  intro d hd;rcases List.mem_or_eq_of_mem_set hd with hd|rfl
  ·exact x.dg d hd
  ·exact Nat.div_lt_of_lt_mul (x.t_lt hq),by
  have hl:=x.lo;have hle:=x.le;have e2:=V_at (l:=x.o.set (x.j-1) (x.t/q)) (j:=x.j-1) (by rw[Ck];omega);have e3:(x.o.set (x.j-1) (x.t/q)).getD (x.j-1) 0=x.t/q:=by
   rw[Aj,List.getElem?_set_self om];rfl
  have e4:(x.o.set (x.j-1) (x.t/q)).drop (x.j-1+1)=x.o.drop x.j:=by
   rw[show x.j-1+1=x.j by omega,List.drop_set_of_lt om]
  rw[e2,e3,e4,x.eq,x.st h,Nat.add_mul_div_left _ _ hq],by
  rw[x.st h,Nat.add_mul_mod_self_left]⟩
theorem zrowsH(n:Nat):(MR.map (List.replicate n ()) (fun _=>litS [.int .i64 0]) ()).rows=(MR.map (List.replicate n 0) nD 0).rows:=by
 show(List.replicate n ()).map _=(List.replicate n 0).map nD;rw[List.map_replicate,List.map_replicate];rfl
def Hv.start(a q:Nat):Hv a q:=⟨(dig a).length,List.replicate (dig a).length 0,0,by simp,Ap _,fun d hd=>by rw[(List.mem_replicate.1 hd).2];decide,by rw[Bq (by simp),Bq (Ap _)];exact(Nat.zero_div q).symm,by rw[Bq (Ap _)];exact(Nat.zero_mod q).symm⟩
theorem mB0{P:Program}{E:Pn}{K:DS->Prop}{p:Prop}{r:Out}(hr:r.sat P E K)(hp:p:=by first|exact⟨hm,by rw[<-hm];omega⟩|exact⟨hm,by omega⟩|(constructor<;>omega)|(rw[hkt,hte];exact ini om om)|(rw[hkt,hte,htd];exact ini om om)|(rw[hkt,hte];exact⟨by omega,hT⟩)|(rw[hkt,hte];exact⟨by omega,hM⟩)|(rw[hkt,hte];exact hT)|(rw[hkt,hte];exact hM)|exact hT|exact hM|omega|exact Dl):(Out.need p r).sat P E K:=⟨hp,hr⟩
theorem gT(a q:Nat)(hq:2<=q/\q<=16)(ha:(dig a).length<=10000000):Fx 179 [natD a,.v (.int .i64 (q:Nat))] (.tup [natD (a/q),.v (.int .i64 ((a%q:Nat):Int))]):=by
 refine yM zO Tryz.func179 rfl rfl rfl rfl rfl rfl ?_;intros;refine zK 100 ?_;refine ev_R zO [1011] 200 ?_;refine jJ [0,1] [] 210 [(6,.mo 102 (dig a).length)] [(102,.mrow 3 1 (.map (List.replicate (dig a).length 0) nD 0))] ?_;refine⟨⟨⟨Sub.mo om,yK⟩,⟨SubO.mr (by rw[zrowsH];congr 3),yH⟩,rfl,rfl⟩,?_⟩;refine zK 300 ?_;refine zB (zK 400 ?_);refine zQ ?_;refine yB (ι:=Hv a q) [0,1,6] [] 450 (fun x=>[(8,.v (.int .i64 ((x.j:Int)-1))),(7,.v (.int .i64 (x.r:Nat)))]) (fun x=>[(102,.mrow 3 1 (.map x.o nD 0))]) (fun x=>x.j) (Hv.start a q) ?_;refine⟨⟨yK,yH,rfl,rfl⟩,fun x=>?_⟩;have hlo:=x.lo;have hle:=x.le;have ht:=x.t_lt om;have hre:=x.re;have hrq:=Nat.mod_lt (V ((dig a).drop x.j)) (show 0<q by omega);have hdq:x.t/q<=x.t:=Nat.div_le_self _ _;have hmq:=Nat.mod_lt x.t (show 0<q by omega);have hT:InI ((x.t/q:Nat):Int):=by
  generalize x.t/q=Z at*;exact ini om om
 have hM:InI ((x.t%q:Nat):Int):=by
  generalize x.t%q=Z at*;exact ini om om
 have hm:(dig a).length=(MR.map x.o nD 0).len:=by rw[MR.len,x.lo]
 have hkt:((x.j:Int)-1).toNat=x.j-1:=by omega
 have hte:(x.r:Int)*65536+(((dig a).getD (x.j-1) 0:Nat):Int)=((x.t:Nat):Int):=by unfold Hv.t;omega
 have htd:Int.tdiv ((x.t:Nat):Int) (q:Int)=((x.t/q:Nat):Int):=rfl;have htm:Int.tmod ((x.t:Nat):Int) (q:Int)=((x.t%q:Nat):Int):=rfl;refine zB (zK 500 ?_);refine zX (fun c4=>?_) (fun c4=>?_)
 ·
  refine zJ (zA (zB (zQ ?_)));refine zB (zE zO [] 700 rfl ?_);repeat(first|refine zH ?_|refine mB0 ?_)
  refine zC (zA ?_);refine zB (zE zO [] 800 rfl ?_);repeat(first|refine zH ?_|refine mB0 ?_)
  refine zC (zA ?_);refine zE zO [] 900 rfl ?_;repeat(first|refine zH ?_|refine mB0 ?_)
  refine zC (zL (zA (yO zO [] 1000 ?_)));exact zR (x.next om om) ⟨⟨u19 (by show(x.j:Int)-1-1=((x.j-1:Nat):Int)-1;omega),u19 (by show _=((x.t%q:Nat):Int);rw[hkt,hte];rfl),yK⟩,⟨SubO.mr (by show(x.o.map nD).set ((x.j:Int)-1).toNat [.v (.int .i64 (Int.tdiv ((x.r:Int)*65536+(((dig a).getD ((x.j:Int)-1).toNat 0:Nat):Int)) (q:Int)))]=(x.o.set (x.j-1) (x.t/q)).map nD;rw[hkt,hte,htd,List.map_set];rfl),yH⟩,rfl,rfl⟩ (by show x.j-1<x.j;omega)
 ·
  refine yF (zZ (yA (zW (zA ?_))));refine pN 102 rfl (by repeat(first|exact trivial|exact hm|refine⟨?_,?_⟩)) (by repeat(first|exact trivial|refine⟨?_,?_⟩)) ?_;refine zB (zE zO [] 1000 rfl ?_);refine zF ?_;refine zS _ ((vO x.o x.dg (by rw[x.lo];omega)).args ⟨SubP.ownSl rfl,trivial⟩) rfl ?_;refine zf (zA (zN ?_));have hz:x.j=0:=by omega
  have e:=x.eq;have e2:=x.re;rw[hz,List.drop_zero,List.drop_zero,gO]at e;rw[hz,List.drop_zero,gO]at e2;exact u1 rfl (SubP.tup ⟨u6 (by rw[e]),u6 (by rw[e2];rfl),trivial⟩)
theorem dig_len_of_le{x y n:Nat}(h:x<=y)(hn:(dig y).length<=n):(dig x).length<=n:=Bg (yW h) hn
theorem twos_bound{x t a n:Nat}(h:2^t*a<=x)(ha:0<a)(hn:(dig x).length<=n):t<16*n:=by
 have h1:=jN0 x;have h2:65536^(dig x).length<=65536^n:=Cp om hn;have h3:2^t<=2^t*a:=Nat.le_mul_of_pos_right _ ha;have h4:65536^n=2^(16*n):=by rw[Nat.pow_mul]
 rcases Bm t (16*n)with h5|h5
 ·exact h5
 ·have h6:2^(16*n)<=2^t:=Cp om h5;omega
theorem gcd_two{X a b t:Nat}(h:X=Nat.gcd a b*2^t)(ha:a%2=0)(hb:b%2=0):X=Nat.gcd (a/2) (b/2)*2^(t+1):=by
 rw[h,gcd_even2 ha hb,Cs,Cf 2,Nat.mul_assoc,Cf 2]
theorem wJ0{x y n:Nat}(na:(dig x).length<=n)(nb:(dig y).length<=n):(dig (Nat.gcd x y)).length<=n:=by
 rcases Bp x with rfl|hx
 ·rw[Nat.gcd_zero_left];exact nb
 ·exact dig_len_of_le (Nat.gcd_le_left y hx) na
theorem dig_first(n:Nat):(dig n).getD 0 0=n%65536:=by
 by_cases h:n=0
 ·rw[h,jM];rfl
 ·rw[vX h];rfl
theorem par(n:Nat):Int.tmod (((dig n).getD (Int.toNat 0) 0:Nat):Int) 2=((n%2:Nat):Int):=by
 rw[show Int.toNat 0=0 from rfl,dig_first];show(((n%65536)%2:Nat):Int)=_;congr 1;omega
theorem wZ(n:Nat):(0<((dig n).length:Int))↔0<n:=by
 by_cases h:n=0
 ·rw[h,jM];simp
 ·rw[vX h,Ak];omega
structure Cm(x y:Nat)where
 a:Nat
 b:Nat
 t:Nat
 eq:Nat.gcd x y=Nat.gcd a b*2^t
 la:a<=x
 lb:b<=y
 tt:2^t*a<=x
 bd:t<=16*100000
def Cm.two{x y:Nat}(z:Cm x y)(ha:z.a%2=0)(hb:z.b%2=0)(hp:0<z.a)(hn:(dig x).length<=100000):Cm x y:=⟨z.a/2,z.b/2,z.t+1,gcd_two z.eq ha hb,Bg (Nat.div_le_self _ _) z.la,Bg (Nat.div_le_self _ _) z.lb,by
 have h1:=z.tt;rw[Cs,Nat.mul_assoc,show 2*(z.a/2)=z.a by omega];exact h1,by
 have h1:=z.tt;exact Nat.le_of_lt (twos_bound (a:=z.a/2) (by rw[Cs,Nat.mul_assoc,show 2*(z.a/2)=z.a by omega];exact h1) om hn)⟩
def Cm.ev1{x y:Nat}(z:Cm x y)(ha:z.a%2=0)(hb:¬z.b%2=0):Cm x y:=⟨z.a/2,z.b,z.t,by rw[z.eq,cR ha om],Bg (Nat.div_le_self _ _) z.la,z.lb,Bg (Nat.mul_le_mul_left _ (Nat.div_le_self _ _)) z.tt,z.bd⟩
def Cm.ev2{x y:Nat}(z:Cm x y)(ha:¬z.a%2=0)(hb:z.b%2=0):Cm x y:=⟨z.a,z.b/2,z.t,by rw[z.eq,Nat.gcd_comm,cR hb om,Nat.gcd_comm],z.la,Bg (Nat.div_le_self _ _) z.lb,z.tt,z.bd⟩
def Cm.s1{x y:Nat}(z:Cm x y)(h:z.b<=z.a):Cm x y:=⟨z.a-z.b,z.b,z.t,by rw[z.eq,jB0 h],by have:=z.la;omega,z.lb,Bg (Nat.mul_le_mul_left _ (Nat.sub_le _ _)) z.tt,z.bd⟩
def Cm.s2{x y:Nat}(z:Cm x y)(h:z.a<=z.b):Cm x y:=⟨z.a,z.b-z.a,z.t,by rw[z.eq,Nat.gcd_comm,jB0 h,Nat.gcd_comm],z.la,by have:=z.lb;omega,z.tt,z.bd⟩
theorem Cm.fin{x y:Nat}(z:Cm x y)(h:¬(0<z.a/\0<z.b)):Nat.gcd x y=(z.a+z.b)*2^z.t:=by
 rw[z.eq];rcases Bp z.a with e|e
 ·rw[e,Nat.gcd_zero_left,Bv]
 ·rw[show z.b=0 by omega,Nat.gcd_zero_right,Ce]
structure Cq(g:Nat)where
 s:Nat
 o:Nat
 eq:g=o*2^s
 bd:s<=16*100000
def Cq.next{g:Nat}(z:Cq g)(h:0<z.s):Cq g:=⟨z.s-1,2*z.o,z.eq.trans (by
 have e:2^z.s=2*2^(z.s-1):=by
  rw[<-Nat.pow_succ'];congr 1;omega
 rw[e,<-Nat.mul_assoc,Cf z.o 2]),by have:=z.bd;omega⟩
theorem Cq.le{g:Nat}(z:Cq g):z.o<=g:=Bg (Nat.le_mul_of_pos_right _ (Nat.pow_pos om)) (Nat.le_of_eq z.eq.symm)
theorem pH0{P:Program}{E:Pn}{K:DS->Prop}{p:Prop}{r:Out}(hr:r.sat P E K)(hp:p:=by first|exact⟨by decide,by show 0<_;omega⟩|(rw[par];exact ini om om)|(refine⟨by decide,?_⟩;rw[par];exact ini om om)|exact Dl):(Out.need p r).sat P E K:=⟨hp,hr⟩
theorem Common3_ok(x0 y0:Nat)(ha:(dig x0).length<=100000)(hb:(dig y0).length<=100000):Fx 151 [natD x0,natD y0] (natD (Nat.gcd x0 y0)):=by
 refine yM zO Tryz.func151 rfl rfl rfl rfl rfl rfl ?_;intros;refine zK 100 ?_;refine zK 200 ?_;refine zB (zQ ?_);refine yB (ι:=Cm x0 y0) [] [] 250 (fun x=>[(0,natD x.a),(1,natD x.b),(5,.v (.int .i64 (x.t:Nat)))]) (fun _=>[]) (fun x=>x.a+x.b) ⟨x0,y0,0,by simp,Ap _,Ap _,by simp,Aq _⟩ ?_;refine⟨⟨yK,yH,rfl,rfl⟩,fun x=>?_⟩
 skip
 refine zB (zK 300 ?_);refine zT rfl (fun c2=>?_) (fun c2=>?_)
 ·rw[Ah,Ai,Ai]at c2;have hab:0<x.a/\0<x.b:=⟨(wZ _).1 c2.1,(wZ _).1 c2.2⟩;have hla:=(wZ x.a).2 hab.1;have hlb:=(wZ x.b).2 hab.2;refine zJ (zA (zQ (zQ ?_)));refine zB (zE zO [] 500 rfl ?_);repeat(first|refine zH ?_|refine zU (by first|exact⟨by decide,by show 0<_;omega⟩|(intro _;exact⟨by decide,by show 0<_;omega⟩)|(rw[par];exact ini om om)|(intro _;rw[par];exact ini om om)|(refine⟨by decide,?_⟩;rw[par];exact ini om om)|(intro _;refine⟨by decide,?_⟩;rw[par];exact ini om om)|exact Dl) ?_)
  refine zC (zA (zT rfl (fun c4=>?_) (fun c4=>?_)))
  ·simp only[par,Ah,Ai]at c4;have c4w:x.a%2=0/\x.b%2=0:=by omega
   refine zB (zE zO [] 600 rfl ?_);refine zF ?_;refine zS _ (gT x.a 2 de (by have:=yW x.la;omega)) rfl ?_;refine zf (zA ?_);refine zB (zE zO [] 700 rfl ?_);refine zF ?_;refine zS _ (gT x.b 2 de (by have:=yW x.lb;omega)) rfl ?_;refine zf (zA ?_);refine zE zO [] 800 rfl ?_;repeat(first|refine zH ?_|refine zU (by first|(have:=x.bd;exact ini om om)|exact Dl) ?_)
   refine zC (zL (zL ?_));exact zR (x.two c4w.1 c4w.2 hab.1 ha) ⟨⟨u0 _,u0 _,u19 (by show _=((x.t+1:Nat):Int);push_cast;rfl),yK⟩,yH,rfl,rfl⟩ (by show x.a/2+x.b/2<x.a+x.b;omega)
  ·have c4w:¬(x.a%2=0/\x.b%2=0):=by
    rintro⟨h8,h9⟩;simp only[par,h8,h9]at c4
    cases c4
   refine zB (zE zO [] 900 rfl ?_);repeat(first|refine zH ?_|refine pH0 ?_)
   refine zC (zA (zT rfl (fun c8=>?_) (fun c8=>?_)))
   ·simp only[par,Ai]at c8;have c8w:x.a%2=0:=by omega
    refine zE zO [] 1000 rfl ?_;refine zF ?_;refine zS _ (gT x.a 2 de (by have:=yW x.la;omega)) rfl ?_;refine zf (zL (zL ?_));exact zR (x.ev1 c8w (fun hb=>c4w ⟨c8w,hb⟩)) ⟨⟨u0 _,u0 _,u0 _,yK⟩,yH,rfl,rfl⟩ (by show x.a/2+x.b<x.a+x.b;omega)
   ·simp only[par,Av]at c8;have c8w:¬x.a%2=0:=by omega
    refine zB (zE zO [] 1100 rfl ?_);repeat(first|refine zH ?_|refine pH0 ?_)
    refine zC (zA (zT rfl (fun c10=>?_) (fun c10=>?_)))
    ·simp only[par,Ai]at c10;have c10w:x.b%2=0:=by omega
     refine zE zO [] 1200 rfl ?_;refine zF ?_;refine zS _ (gT x.b 2 de (by have:=yW x.lb;omega)) rfl ?_;refine zf (zL (zL ?_));exact zR (x.ev2 c8w c10w) ⟨⟨u0 _,u0 _,u0 _,yK⟩,yH,rfl,rfl⟩ (by show x.a+x.b/2<x.a+x.b;omega)
    ·simp only[par,Av]at c10;have c10w:¬x.b%2=0:=by omega
     refine zB (zE zO [] 1300 rfl ?_);refine zF ?_;refine zS _ (uU x.a x.b (by have:=yW x.la;omega) (by have:=yW x.lb;omega)) rfl ?_;refine zF ?_;refine zC (zA (zT rfl (fun c12=>?_) (fun c12=>?_)))
     ·have hge:x.b<=x.a:=by
       rcases Bm x.a x.b with h9|h9
       ·rw[jO0 h9]at c12;exact absurd c12 de
       ·exact h9
      refine zE zO [] 1400 rfl ?_;refine zF ?_;refine zS _ (gS x.a x.b hge (by have:=yW x.la;omega)) rfl ?_;refine zf (zL (zL ?_));exact zR (x.s1 hge) ⟨⟨u0 _,u0 _,u0 _,yK⟩,yH,rfl,rfl⟩ (by show x.a-x.b+x.b<x.a+x.b;omega)
     ·have hge:¬x.b<=x.a:=by
       intro h9;have h8:0<=cmpN x.a x.b:=by
        rcases Bm x.b x.a with h7|h7
        ·rw[zF0 h7];decide
        ·rw[xG0 om];decide
       rw[Bo h8]at c12
       cases c12
      refine zE zO [] 1400 rfl ?_;refine zF ?_;refine zS _ (gS x.b x.a om (by have:=yW x.lb;omega)) rfl ?_;refine zf (zL (zL ?_));exact zR (x.s2 om) ⟨⟨u0 _,u0 _,u0 _,yK⟩,yH,rfl,rfl⟩ (by show x.a+(x.b-x.a)<x.a+x.b;omega)
 ·have hab:¬(0<x.a/\0<x.b):=by
   rintro⟨h8,h9⟩;have h1:=(wZ x.a).2 h8;have h2:=(wZ x.b).2 h9;rw[Bo h1,Bo h2]at c2
   cases c2
  refine yF (zZ (yA (zW (zA ?_))));have hfn:=x.fin hab;have hbd:=x.bd;refine zB (zE zO [] 1500 rfl ?_);refine zF ?_;refine zS _ (uI0 x.a x.b (by have:=yW x.la;omega) (by have:=yW x.lb;omega)) rfl ?_;refine zf (zA (zB (zQ ?_)));refine yB (ι:=Cq (Nat.gcd x0 y0)) [] [] 1550 (fun z=>[(5,.v (.int .i64 (z.s:Nat))),(6,natD z.o)]) (fun _=>[]) (fun z=>z.s) ⟨x.t,x.a+x.b,hfn,hbd⟩ ?_;refine⟨⟨yK,yH,rfl,rfl⟩,fun z=>?_⟩;have hzb:=z.bd;refine zB (zK 1600 ?_);refine zT rfl (fun c15=>?_) (fun c15=>?_)
  ·have hz0:0<z.s:=by simpa using c15
   refine zJ (zA (zB (zQ ?_)));refine zE zO [] 1800 rfl ?_;refine zF ?_;refine zS _ (Double3_ok z.o false (by have h8:=yW z.le;have h9:=wJ0 ha hb;omega)) rfl ?_;refine zF ?_;refine zC (zL (zA (yO zO [] 1900 ?_)));exact zR (z.next hz0) ⟨⟨u19 (by show(z.s:Int)-1=((z.s-1:Nat):Int);omega),u0 _,yK⟩,yH,rfl,rfl⟩ (by show z.s-1<z.s;omega)
  ·have hz0:z.s=0:=by
    have h9:¬0<z.s:=by simpa using c15
    omega
   refine yF (zZ (yA (zW (zA (zK 1900 ?_)))));refine zN ?_;have e:=z.eq;rw[hz0,Nat.pow_zero,Nat.mul_one]at e;exact u1 rfl (u6 (congrArg natD e.symm))
def uM(b:Bool)(l:List Nat):Bool:=decide (l.length<=128)&&((decide (l.length=0)&& !b)||(decide (0<l.length)&&decide (l.getD (l.length-1) 0≠0)))
theorem intOk_len{b:Bool}{l:List Nat}(h:uM b l=true):l.length<=128:=by
 unfold uM at h;rw[Ah,Ai]at h;exact h.1
theorem VL_dig{l:List Nat}(h:Lg l):(dig (VL l)).length<=2*l.length:=by
 refine qL ?_;have:=L_lt h;rw[show 2*l.length=l.length+l.length by omega,Nat.pow_add,<-Nat.mul_pow];exact this
theorem cO{b:Bool}{l:List Nat}(hg:Lg l)(h:uM b l=true):(dig (VL l)).length<=256:=by
 have h1:=VL_dig hg;have h2:=intOk_len h;omega
def ratS(b1:Bool)(l1:List Nat)(b2:Bool)(l2:List Nat):Bool:=((uM b1 l1&&uM b2 l2)&&(!b2&&decide (0<l2.length)))&&(cmpN (Nat.gcd (VL l1) (VL l2)) 1==0)
theorem cN(b:Bool)(l:List Nat):(decide ((l.length:Int)<=128)&&((decide ((l.length:Int)=0)&& !b)||(decide (0<(l.length:Int))&& !decide (((l.getD ((l.length:Int)-1).toNat 0:Nat):Int)=0))))=uM b l:=by
 have e:((l.length:Int)-1).toNat=l.length-1:=by omega
 rw[e,uM,Bool.eq_iff_iff];simp;omega
theorem tQ(b:Bool)(l:List Nat)(hl:l.length<=2000000):Fx 108 [.agg [.v (.bool b),usD l]] (.v (.bool (uM b l))):=by
 refine yM zO Tryz.func108 rfl rfl rfl rfl rfl rfl ?_;intros;refine zK 100 ?_;refine zK 200 ?_;refine zK 300 ?_;refine zN ?_;exact u1 rfl (u5 (cN b l))
theorem RatioOk_ok(b1 b2:Bool)(l1 l2:List Nat)(g1:Lg l1)(g2:Lg l2)(n1:l1.length<=2000000)(n2:l2.length<=2000000):Fx 109 [.agg [.v (.bool b1),usD l1,.v (.bool b2),usD l2]] (.v (.bool (ratS b1 l1 b2 l2))):=by
 refine yM zO Tryz.func109 rfl rfl rfl rfl rfl rfl ?_;intros;refine zK 100 ?_;refine zB ?_;refine zB (zE zO [] 200 rfl ?_);refine zF ?_;refine zS _ (tQ b1 l1 n1) rfl ?_;refine zF ?_;refine yP _ (fun hg7=>tQ b2 l2 n2) rfl ?_;refine zF ?_;refine zC (zA (zT rfl (fun c1=>?_) (fun c1=>?_)))
 ·
  refine zK 300 ?_;refine zN (zM ?_);exact u1 rfl (u5 (by rw[ratS];have h9:=c1;cases h1:uM b1 l1<;>cases h2:uM b2 l2<;>cases b2<;>simp_all))
 ·have k1:uM b1 l1=true:=by
   cases h9:uM b1 l1 with
   |true=>rfl
   |false=>rw[h9]at c1;simp at c1
  have k2:uM b2 l2=true:=by
   cases h9:uM b2 l2 with
   |true=>rfl
   |false=>rw[h9]at c1;simp at c1
  have d1:=cO g1 k1;have d2:=cO g2 k2;refine zJ (zA ?_);refine zB (yE zO [] [[],[0],[0,1],[0,1,2],[],[4],[4,5],(rgN 7),(rgN 8),(rgN 9),(rgN 10),(rgN 11),(rgN 12)] 400 yX kr rfl ?_);refine zF ?_;refine zS _ (xR0 l1 g1 om) rfl ?_;refine zF ?_;refine zS _ (xR0 l2 g2 om) rfl ?_;refine zF ?_;refine zS _ (Common3_ok (VL l1) (VL l2) om om) rfl ?_;refine zF ?_;refine zS _ (Small3_ok 1 de de) rfl ?_;refine zF ?_;refine zS _ (uU (Nat.gcd (VL l1) (VL l2)) 1 (by have:=wJ0 d1 d2;omega) (by decide+kernel)) rfl ?_;refine zf (zA (zN ?_));exact u1 rfl (u5 (by rw[ratS,k1,k2];have h9:=c1;rw[k1,k2]at h9;simp at h9⊢;rw[h9.1,Bo (List.length_pos_iff.2 h9.2)];exact Bool.eq_iff_iff.2 (by simp)))
end Go.Proofs.YtmakjjodkiedmaaGreatDoor
