/-Part 21 of the proof. -/
import Derived.Test.YtammfbdgjnkolaaGreatDoorM20
namespace Go.Proofs.YtammfbdgjnkolaaGreatDoor
open Go.RowKit
variable{md me:Bool}
theorem wJ0(a b:Nat)(ha:(lim a).length<=600)(hb:(lim b).length<=600)(hab:(lim (a+b)).length<=600):Fx 249 [usD (lim a),usD (lim b)] (.tup [usD (lim (a+b)),faD 0 0]):=by
 refine yD zJ Tryz.func249 rfl rfl rfl rfl rfl rfl ?_;intros;refine zK 100 ?_;refine zB ?_;refine zB (zE zJ [] 200 rfl ?_);refine zF ?_;refine zQ _ (wJ _ _ ao ao) rfl ?_;refine zF ?_;refine zC (zA (zK 300 ?_));refine zZ (fun c2=>?_) (fun c2=>?_)
 ·
  exact absurd c2 de
 ·
  refine zM (zA ?_);refine zB (zE zJ [] 500 rfl ?_);refine zF ?_;refine zQ _ (natAdd0_ok a b om om) rfl ?_;refine zF ?_;refine zQ _ (wH0 (lim (a+b)) (yV _) om (by rw[vF];exact hab)) rfl ?_;refine zf (zA (zL ?_));exact u4 rfl (u19 ⟨u9 (by rw[vF]),u6 _,trivial⟩)
theorem natMul_ok(a b:Nat)(ha:(lim a).length<=600)(hb:(lim b).length<=600)(hab:(lim (a*b)).length<=600):Fx 246 [usD (lim a),usD (lim b)] (.tup [usD (lim (a*b)),faD 0 0]):=by
 refine yD zJ Tryz.func246 rfl rfl rfl rfl rfl rfl ?_;intros;refine zK 100 ?_;refine zB ?_;refine zB (zE zJ [] 200 rfl ?_);refine zF ?_;refine zQ _ (wJ _ _ ao ao) rfl ?_;refine zF ?_;refine zC (zA (zK 300 ?_));refine zZ (fun c2=>?_) (fun c2=>?_)
 ·
  exact absurd c2 de
 ·
  refine zM (zA ?_);refine zB (zE zJ [] 500 rfl ?_);refine zF ?_;refine zQ _ (natMul0_ok a b om om) rfl ?_;refine zF ?_;refine zQ _ (wH0 (lim (a*b)) (yV _) om (by rw[vF];exact hab)) rfl ?_;refine zf (zA (zL ?_));exact u4 rfl (u19 ⟨u9 (by rw[vF]),u6 _,trivial⟩)
theorem zG0(a b:Nat)(ha:(lim a).length<=600)(hb:(lim b).length<=600)(hle:b<=a):Fx 250 [usD (lim a),usD (lim b)] (.tup [usD (lim (a-b)),faD 0 0]):=by
 have hneg:=dU0 a b;refine yD zJ Tryz.func250 rfl rfl rfl rfl rfl rfl ?_;intros;refine zK 100 ?_;refine zB ?_;refine zB (zE zJ [] 200 rfl ?_);refine zF ?_;refine zQ _ (wJ _ _ ao ao) rfl ?_;refine zF ?_;refine zC (zA (zK 300 ?_));refine zZ (fun c2=>?_) (fun c2=>?_)
 ·
  exact absurd c2 de
 ·
  refine zM (zA (zB ?_));refine zB (zE zJ [] 500 rfl ?_);refine zF ?_;refine zQ _ (gC a b om om) rfl ?_;refine zF ?_;refine zC (zA (zZ (fun c4=>?_) (fun c4=>?_)))
  ·
   exact absurd c4 (by simp;omega)
  ·
   refine zM (zA ?_);refine zB (zE zJ [] 700 rfl ?_);refine zF ?_;refine zQ _ (natSub0_ok _ _ ao ao ao) rfl ?_;refine zf (zA (zL ?_));exact u4 rfl (u6 _)
theorem gF1{P:Program}{E:Pn}{K:DS->Prop}{p:Prop}{r:Out}(hr:r.sat P E K)(hp:p:=by first|exact⟨hm,by rw[<-hm];omega⟩|exact⟨hm,by omega⟩|exact Fa):(Out.need p r).sat P E K:=⟨hp,hr⟩
theorem natShort_ok(a d:Nat)(ha:(lim a).length<=100000)(h0:0<d)(hd:d<4294967296):Fx 278 [usD (lim a),.v (.int .u32 d)] (.tup [usD (lim (a/d)),.v (.int .u32 (a%d:Nat))]):=by
 refine yD zJ Tryz.func278 rfl rfl rfl rfl rfl rfl ?_;intros;refine zK 100 ?_;refine ev_R zJ [1011] 200 ?_;refine yL [0,1] [] 210 [(6,.mo 102 (lim a).length)] [(102,.mrow 91 1 (.map (List.replicate (lim a).length 0) uD 0))] ?_;refine⟨⟨⟨Sub.mo om,yG⟩,⟨SubO.mr (by rw[qP1];congr 3),yF⟩,rfl,rfl⟩,?_⟩;refine zK 300 ?_;refine zB (zK 400 ?_);refine zP ?_;refine yC (ι:=Sho (lim a) d) [0,1,6] [] 450 (fun x=>[(8,.v (.int .i64 ((x.k:Int)-1))),(7,.v (.int .u32 (x.r:Nat)))]) (fun x=>[(102,.mrow 91 1 (.map x.o uD 0))]) (fun x=>x.k) (Sho.start _ h0) ?_;refine⟨⟨yG,yF,rfl,rfl⟩,fun x=>?_⟩;have hk:=x.le;have hlo:=x.lo;have hr:=x.hr;have hm:(lim a).length=(MR.map x.o uD 0).len:=by rw[MR.len,hlo]
 have hkt:((x.k:Int)-1).toNat=x.k-1:=by omega
 refine zB (zK 500 ?_);refine zZ (fun c4=>?_) (fun c4=>?_)
 ·
  refine zM (zA (zB (zP ?_)));refine zE zJ [] 700 rfl ?_;repeat(first|refine zH ?_|refine gF1 ?_)
  refine zQ _ (Div32_ok _ _ _ ⟨by omega,by omega⟩ (pS (yV a) _) ⟨by omega,by omega⟩ om) rfl ?_;repeat(first|refine zH ?_|refine gF1 ?_)
  refine zC (zN (zA (yM zJ [] 800 ?_)));have es:x.s=x.r*4294967296+(lim a).getD (x.k-1) 0:=rfl;exact zS (x.next (yV a) hd om) ⟨⟨u21 (by show(x.k:Int)-1-1=((x.k-1:Nat):Int)-1;omega),u21 (by simp only[hkt,Ak];show _=((x.s%d:Nat):Int);rw[es]),yG⟩,⟨SubO.mr (by simp only[hkt,Ak];show _=(MR.map (x.o.set (x.k-1) (x.s/d)) uD 0).rows;rw[es];exact tK _ _ _),yF⟩,rfl,rfl⟩ (by show x.k-1<x.k;omega)
 ·
  refine yE (yA (yB (zY (zA ?_))));refine qT 102 rfl (by repeat(first|exact trivial|exact hm|refine⟨?_,?_⟩)) (by repeat(first|exact trivial|refine⟨?_,?_⟩)) ?_;refine zB (zE zJ [] 800 rfl ?_);refine zF ?_;refine zQ _ ((jK x.o x.lg om).args ⟨SubP.ownSl rfl,trivial⟩) rfl ?_;refine zf (zA (zL ?_));have e:=x.fin om;rw[vF]at e;exact u4 rfl (u19 ⟨u9 (by rw[e.1]),u10 (by rw[e.2]),trivial⟩)
theorem cK(n:Nat):2^n=4294967296^(n/32)*2^(n%32):=by
 conv=>lhs;rw[<-Dd n 32]
 rw[Eo,Nat.pow_mul]
theorem xK1(n:Nat):4294967296=2^(n%32)*2^(32-n%32):=by
 have h:=Cx n (show 0<32 by decide);rw[<-Eo,show n%32+(32-n%32)=32 by omega]
theorem jV1(n:Nat):0<2^(n%32):=Nat.pow_pos de
theorem P_le(n:Nat):2^(n%32)<=2147483648:=by
 have h:=Cx n (show 0<32 by decide);have h1:2^(n%32)<=2^31:=Bb de om;simpa using h1
structure Lf(l:List Nat)(n:Nat)where
 k:Nat
 c:Nat
 o:List Nat
 eq:VL o+c*4294967296^(n/32+k)=VL (l.take k)*2^n
 lo:o.length=n/32+k
 lg:Lg o
 hc:c<2^(n%32)
 le:k<=l.length
def Lf.start(l:List Nat)(n:Nat):Lf l n:=⟨0,0,List.replicate (n/32) 0,by simp[mB0,VL],by simp,cG _,jV1 n,Aq _⟩
def Lf.w{l:List Nat}{n:Nat}(x:Lf l n):Nat:=l.getD x.k 0*2^(n%32)
theorem uX1(x n:Nat):x*2^(n%32)%4294967296=2^(n%32)*(x%2^(32-n%32)):=by
 conv=>lhs;rw[xK1 n,Aw x]
 rw[Nat.mul_mod_mul_left]
theorem lf_or{x n c:Nat}(hc:c<2^(n%32)):x*2^(n%32)%4294967296|||c=x*2^(n%32)%4294967296+c:=by
 rw[uX1,Nat.two_pow_add_eq_or_of_lt hc]
theorem kB1{x n c:Nat}(hc:c<2^(n%32)):x*2^(n%32)%4294967296+c<4294967296:=by
 have h0:=xK1 n;have h1:x%2^(32-n%32)<2^(32-n%32):=Cx _ (Nat.pow_pos de);have h2:2^(n%32)*(x%2^(32-n%32)+1)<=2^(n%32)*2^(32-n%32):=Cv _ h1;rw[Bv]at h2;rw[uX1];omega
theorem lf_w_lt{x:Nat}(n:Nat)(h:x<4294967296):x*2^(n%32)<18446744073709551616:=by
 have h1:x*2^(n%32)<=4294967295*2147483648:=Nat.mul_le_mul om (P_le n);omega
theorem kC1{x:Nat}(n:Nat)(h:x<4294967296):x*2^(n%32)/4294967296<2^(n%32):=by
 rw[Dw de,Aw];exact Nat.mul_lt_mul_of_pos_left h (jV1 n)
theorem lf_step{l o:List Nat}{n k c:Nat}(h:VL o+c*4294967296^(n/32+k)=VL (l.take k)*2^n)(ho:o.length=n/32+k):
  VL (o++[l.getD k 0*2^(n%32)%4294967296+c])+l.getD k 0*2^(n%32)/4294967296*4294967296^(n/32+(k+1))=VL (l.take (k+1))*2^n:=by
 have e0:4294967296^k*l.getD k 0*2^n=4294967296^(n/32+k)*(l.getD k 0*2^(n%32)):=by
  rw[cK n,Eo,Nat.mul_mul_mul_comm,Aw (4294967296^k)]
 rw[mL,ho,qL l,Bo,e0,<-Ed (n/32) k 1,By];generalize 4294967296^(n/32+k)=B at*;generalize l.getD k 0*2^(n%32)=w at*;generalize VL (l.take k)*2^n=R at*;have e:=Dd w 4294967296;have e2:B*w=B*(4294967296*(w/4294967296))+B*(w%4294967296):=by rw[<-Bv,e]
 have e3:B*(w%4294967296+c)=B*(w%4294967296)+B*c:=Bv _ _ _;have e4:w/4294967296*(B*4294967296)=B*(4294967296*(w/4294967296)):=by rw[Aw,Bp]
 have e5:c*B=B*c:=Aw _ _;omega
def Lf.next{l:List Nat}{n:Nat}(x:Lf l n)(hg:Lg l)(h:x.k<l.length):Lf l n:=⟨x.k+1,x.w/4294967296,x.o++[x.w%4294967296+x.c],lf_step x.eq x.lo,by simp[x.lo];omega,x.lg.snoc (kB1 x.hc),kC1 n (qG hg _),h⟩
theorem Lf.fin{l:List Nat}{n:Nat}(x:Lf l n)(h:l.length<=x.k):VL (x.o++[x.c])=VL l*2^n/\Lg (x.o++[x.c])/\(x.o++[x.c]).length=n/32+l.length+1:=by
 have hk:=x.le;have h1:=x.eq;have h2:=P_le n;have h3:=x.hc;rw[Ai h]at h1;refine⟨by rw[mL,x.lo,Aw];exact h1,x.lg.snoc om,by rw[Ae,x.lo,Co];omega⟩
theorem qH1{l:List Nat}(hg:Lg l)(i:Nat):VL l/4294967296^i=VL (l.drop i):=by
 rcases Br i l.length with h|h
 ·have h1:=wQ l i (Dn h);have h2:=L_lt (hg.take i);rw[As,De (Dn h)]at h2;rw[h1,Nat.add_mul_div_left _ _ (Nat.pow_pos de),Ei h2,Cp]
 ·rw[Bd h,xU0];exact Ei (Bt (L_lt hg) (Bb de h))
theorem vP(l:List Nat)(i:Nat):VL (l.drop i)=l.getD i 0+4294967296*VL (l.drop (i+1)):=by
 rcases Br i l.length with h|h
 ·rw[Cd h,uU,qQ h]
 ·rw[Bd h,Bd om,jW h];rfl
structure Rg(l:List Nat)(n:Nat)where
 k:Nat
 o:List Nat
 eq:VL o=VL l/2^n%4294967296^k
 lo:o.length=k
 lg:Lg o
 le:k<=l.length
def Rg.start(l:List Nat)(n:Nat):Rg l n:=⟨0,[],by rw[Nat.pow_zero,Nat.mod_one];rfl,rfl,Lg.nil,Aq _⟩
def Rg.w{l:List Nat}{n:Nat}(x:Rg l n):Nat:=l.getD (n/32+x.k) 0+4294967296*l.getD (n/32+x.k+1) 0
theorem rg_limb{l:List Nat}{n k:Nat}(hg:Lg l):VL l/2^n/4294967296^k%4294967296=(l.getD (n/32+k) 0+4294967296*l.getD (n/32+k+1) 0)/2^(n%32)%4294967296:=by
 rw[Nat.div_div_eq_div_mul,cK n,Nat.mul_right_comm,<-Eo,<-Nat.div_div_eq_div_mul,qH1 hg,vP,vP l (n/32+k+1),Bv,<-Ed];generalize l.getD (n/32+k) 0+4294967296*l.getD (n/32+k+1) 0=W;generalize VL (l.drop (n/32+k+1+1))=R;have e:4294967296*(4294967296*R)=2^(n%32)*(4294967296*(2^(32-n%32)*R)):=by
  have h:=xK1 n;generalize 2^(n%32)=P at*;generalize 2^(32-n%32)=T at*
  calc 4294967296*(4294967296*R)=(P*T)*(4294967296*R):=by rw[<-h]
   _=P*(4294967296*(T*R)):=by rw[Bp,Nat.mul_left_comm T]
 rw[e,Nat.add_mul_div_left _ _ (jV1 n),Nat.add_mul_mod_self_left]
def Rg.next{l:List Nat}{n:Nat}(x:Rg l n)(hg:Lg l)(h:n/32+x.k<l.length):Rg l n:=⟨x.k+1,x.o++[x.w/2^(n%32)%4294967296],by
 rw[mL,x.lo,x.eq];unfold Rg.w;rw[<-rg_limb hg,By,Nat.mod_mul],by simp[x.lo],x.lg.snoc (Cx _ de),by omega⟩
theorem Rg.fin{l:List Nat}{n:Nat}(x:Rg l n)(hg:Lg l)(h:l.length<=n/32+x.k):VL x.o=VL l/2^n:=by
 rw[x.eq];refine Dr ?_;have h1:VL l<4294967296^(n/32+x.k):=Bt (L_lt hg) (Bb de h);rw[Dw (Nat.pow_pos de)];refine Bt h1 ?_;rw[Eo,Aw,cK n];exact Cv _ (Nat.le_mul_of_pos_right _ (jV1 n))
variable{md me:Bool}
theorem gJ1(n:Nat):min (Int.tmod (n:Int) 32).toNat IntKind.u64.bits=n%32:=by
 rw[Int.tmod_eq_emod_of_nonneg om];have h:((n:Int)%32).toNat=n%32:=by omega
 rw[h];have:=Cx n (show 0<32 by decide);show min (n%32) 64=n%32;omega
theorem uI1(n:Nat):((2:Int)^(n%32))=((2^(n%32):Nat):Int):=by rw[Int.natCast_pow];rfl
theorem lf_w{l:List Nat}{n:Nat}(x:Lf l n)(hg:Lg l):IntKind.u64.wrap (IntKind.u64.wrap ((l.getD x.k 0:Nat):Int)*2^min (Int.tmod (n:Int) 32).toNat IntKind.u64.bits)=((x.w:Nat):Int):=by
 have h1:=qG hg x.k;have h2:=lf_w_lt n h1;rw[gJ1,uI1,w64 (n:=l.getD x.k 0) om,<-Int.natCast_mul,w64 h2];rfl
theorem lf_o{l:List Nat}{n:Nat}(x:Lf l n):bOr .u32 (IntKind.u32.wrap ((x.w:Nat):Int)) ((x.c:Nat):Int)=((x.w%4294967296+x.c:Nat):Int):=by
 have hP:=P_le n;have hc:=x.hc;rw[lo32 rfl];show IntKind.u32.wrap ((BitVec.ofInt 32 ((x.w%4294967296:Nat):Int)|||BitVec.ofInt 32 ((x.c:Nat):Int)).toNat:Int)=_;rw[BitVec.ofInt_natCast,BitVec.ofInt_natCast,BitVec.toNat_or,BitVec.toNat_ofNat,BitVec.toNat_ofNat,Dr (Cx _ de),Dr (show x.c<2^32 by omega)];unfold Lf.w;rw[lf_or hc,w32n (kB1 hc)]
theorem lf_c{l:List Nat}{n:Nat}(x:Lf l n)(hg:Lg l):IntKind.u32.wrap (Int.fdiv ((x.w:Nat):Int) (2^min (Int.toNat 32) IntKind.u64.bits))=((x.w/4294967296:Nat):Int):=by
 have h1:=kC1 n (qG hg x.k);have hP:=P_le n;rw[hi32 rfl,w32n (by unfold Lf.w;omega)]
theorem td32(n:Nat):Int.tdiv (n:Int) 32=((n/32:Nat):Int):=by rw[Int.tdiv_eq_ediv_of_nonneg (by omega)];rfl
theorem qW1{P:Program}{E:Pn}{K:DS->Prop}{p:Prop}{r:Out}(hr:r.sat P E K)(hp:p:=by first|(rw[Int.tmod_eq_emod_of_nonneg (by omega)];omega)|exact Fa):(Out.need p r).sat P E K:=⟨hp,hr⟩
theorem natLeft_ok(a n:Nat)(ha:(lim a).length<=100000)(hn:n<=1000000):Fx 285 [usD (lim a),.v (.int .i64 n)] (usD (lim (a*2^n))):=by
 have htd:=td32 n;refine yD zJ Tryz.func285 rfl rfl rfl rfl rfl rfl ?_;intros;refine zK 100 ?_;refine zB (zE zJ [1018] 200 rfl ?_);repeat(first|refine zH ?_|refine zW (by first|(rw[td32];omega)|(simp only[td32];omega)|exact⟨by decide,by rw[td32];exact ini om om⟩|(rw[td32];exact ini om om)|(simp only[td32];exact ini om om)|(simp only[td32];refine⟨?_,?_⟩<;>omega)|exact Fa) ?_)
 refine zC (zA ?_);refine yL [0,1] [] 210 [(5,.mo 108 (n/32))] [(108,.mrow 91 1 (.map (List.replicate (n/32) 0) uD 0))] ?_;refine⟨⟨⟨Sub.mo (by rw[td32];omega),yG⟩,⟨SubO.mr (by rw[qP1,td32];congr 3),yF⟩,rfl,rfl⟩,?_⟩;refine qT 108 rfl (by repeat(first|exact trivial|exact(List.length_replicate).symm|refine⟨?_,?_⟩)) (by repeat(first|exact trivial|refine⟨?_,?_⟩)) ?_;refine zK 300 ?_;refine zB (zK 400 ?_);refine zP ?_;refine yC (ι:=Lf (lim a) n) [1,19,20] [] 450 (fun x=>[(21,.v (.int .i64 (x.k:Nat))),(6,.v (.int .u32 (x.c:Nat))),(5,.own 108 1 (x.o.map uD))]) (fun x=>[(108,.row 91 1 (x.o.map uD).length)]) (fun x=>(lim a).length-x.k) (Lf.start _ _) ?_;refine⟨⟨yG,yF,rfl,rfl⟩,fun x=>?_⟩;have hk:=x.le;have hlo:=x.lo;have hc1:=x.hc;have hP:=P_le n;have ew:=lf_w x (yV a);have eo:=lf_o x;have ec:=lf_c x (yV a);refine zK 500 ?_;refine zB (zZ (fun c4=>?_) (fun c4=>?_))
 ·
  refine zM (zA (zB (zP (zK 600 ?_))));refine zB (zE zJ [] 700 rfl ?_);repeat(first|refine zH ?_|refine qW1 ?_)
  refine zC (zA (zK 800 ?_));refine yM zJ [] 900 ?_;refine zN (zA (yM zJ [] 1000 ?_));exact zS (x.next (yV a) om) ⟨⟨u21 (by show(x.k:Int)+1=((x.k+1:Nat):Int);omega),u21 (by(try simp only[Ak]);rw[ew];exact ec),Sub.own (vY (by(try simp only[Ak]);rw[ew];exact eo)),yG⟩,(by repeat(first|exact trivial|exact u15 rfl|exact⟨rfl,rfl,by show _=(List.map uD (x.o++_)).length;simp⟩|refine⟨?_,?_⟩)),rfl,rfl⟩ (by show(lim a).length-(x.k+1)<(lim a).length-x.k;omega)
 ·
  refine yE (yA (yB (zY (zA ?_))));refine zB (zE zJ [] 1100 rfl ?_);refine zF ?_;refine zQ _ ((jK (x.o++[x.c]) (x.lg.snoc om) (by simp;omega)).args ⟨SubP.ownSl (vY rfl),trivial⟩) rfl ?_;refine zf (zA (zL ?_));have e:=(x.fin om).1;rw[vF]at e;exact u4 rfl (u9 (by rw[e]))
theorem gP1{h l:Nat}(hh:h<4294967296)(hl:l<4294967296):bOr .u64 (IntKind.u64.wrap (l:Int)) (IntKind.u64.wrap (IntKind.u64.wrap (h:Int)*2^min (Int.toNat 32) IntKind.u64.bits))=((l+4294967296*h:Nat):Int):=by
 have e:=or64 hh hl;rw[show l+4294967296*h=h*4294967296+l by omega,<-e];unfold bOr;rw[BitVec.or_comm]
theorem rg_T{l:List Nat}{n:Nat}(x:Rg l n)(hg:Lg l):bOr .u64 (IntKind.u64.wrap ((l.getD (n/32+x.k) 0:Nat):Int)) (IntKind.u64.wrap (IntKind.u64.wrap ((l.getD (n/32+x.k+1) 0:Nat):Int)*2^min (Int.toNat 32) IntKind.u64.bits))=((x.w:Nat):Int):=by
 rw[gP1 (qG hg _) (qG hg _)];rfl
theorem rg_F{l:List Nat}{n:Nat}(x:Rg l n)(hg:Lg l)(h:l.length<=n/32+x.k+1):IntKind.u64.wrap ((l.getD (n/32+x.k) 0:Nat):Int)=((x.w:Nat):Int):=by
 have h1:=qG hg (n/32+x.k);unfold Rg.w;rw[jW h,w64 om];simp
theorem rg_l{n w:Nat}:IntKind.u32.wrap (Int.fdiv ((w:Nat):Int) (2^min (Int.tmod (n:Int) 32).toNat IntKind.u64.bits))=((w/2^(n%32)%4294967296:Nat):Int):=by
 rw[gJ1,cA (uI1 n),lo32 rfl]
theorem natRight_ok(a n:Nat)(ha:(lim a).length<=100000)(hn:n<=1000000):Fx 287 [usD (lim a),.v (.int .i64 n)] (usD (lim (a/2^n))):=by
 refine yD zJ Tryz.func287 rfl rfl rfl rfl rfl rfl ?_;intros;refine zK 100 ?_;refine zK 200 ?_;refine yY 5 91 1 rfl ?_;refine zB ?_;refine zB (zE zJ [] 300 rfl ?_);repeat(first|refine zH ?_|refine zW (by first|exact⟨by decide,by rw[td32];exact ini om om⟩|(rw[td32];exact ini om om)|exact Fa) ?_)
 refine zC (zA (zP ?_));refine yC (ι:=Rg (lim a) n) [0,1] [] 350 (fun x=>[(6,.v (.int .i64 (n/32+x.k:Nat))),(5,.own 200 1 (x.o.map uD))]) (fun x=>[(200,.row 91 1 (x.o.map uD).length)]) (fun x=>(lim a).length-(n/32+x.k)) (Rg.start _ _) ?_;refine⟨⟨⟨u21 (by rw[td32];rfl),Sub.own rfl,yG⟩,yF,rfl,rfl⟩,fun x=>?_⟩;have hk:=x.le;have hlo:=x.lo;refine zB (zK 400 ?_);refine zZ (fun c3=>?_) (fun c3=>?_)
 ·
  refine zM (zA (zB (zP (zK 600 ?_))));refine zB (zK 700 ?_);refine zZ (fun c6=>?_) (fun c6=>?_)
  ·
   refine yM zJ [] 800 ?_;refine zA ?_;refine zE zJ [] 900 rfl ?_;repeat(first|refine zH ?_|refine qW1 ?_)
   refine zC (zN (zA (yM zJ [] 1000 ?_)));have hj:(((n/32+x.k:Nat):Int)+1).toNat=n/32+x.k+1:=by omega
   have e:=rg_T x (yV a);exact zS (x.next (yV a) om) ⟨⟨u21 (by show((n/32+x.k:Nat):Int)+1=((n/32+(x.k+1):Nat):Int);omega),Sub.own (vY (by(try simp only[hj,Ak]);rw[e];exact rg_l)),yG⟩,(by repeat(first|exact trivial|exact u15 rfl|exact⟨rfl,rfl,by show _=(List.map uD (x.o++_)).length;simp⟩|refine⟨?_,?_⟩)),rfl,rfl⟩ (by show(lim a).length-(n/32+(x.k+1))<(lim a).length-(n/32+x.k);omega)
  ·
   refine zM (zA ?_);refine zE zJ [] 900 rfl ?_;repeat(first|refine zH ?_|refine qW1 ?_)
   refine zC (zN (zA (yM zJ [] 1000 ?_)));have hj:(((n/32+x.k:Nat):Int)+1).toNat=n/32+x.k+1:=by omega
   have e:=rg_F x (yV a) om;exact zS (x.next (yV a) om) ⟨⟨u21 (by show((n/32+x.k:Nat):Int)+1=((n/32+(x.k+1):Nat):Int);omega),Sub.own (vY (by(try simp only[hj,Ak]);rw[e];exact rg_l)),yG⟩,(by repeat(first|exact trivial|exact u15 rfl|exact⟨rfl,rfl,by show _=(List.map uD (x.o++_)).length;simp⟩|refine⟨?_,?_⟩)),rfl,rfl⟩ (by show(lim a).length-(n/32+(x.k+1))<(lim a).length-(n/32+x.k);omega)
 ·
  refine yE (yA (yB (zY (zA ?_))));refine zB (zE zJ [] 1000 rfl ?_);refine zF ?_;refine zQ _ ((jK x.o x.lg om).args ⟨SubP.ownSl rfl,trivial⟩) rfl ?_;refine zf (zA (zL ?_));have e:=x.fin (yV a) om;rw[vF]at e;exact u4 rfl (u9 (by rw[e]))
variable{md me:Bool}
theorem cmpN_neg(x y:Nat):cmpN x y<0↔x<y:=by
 unfold cmpN;split
 ·exact⟨fun _=>by assumption,fun _=>by decide⟩
 ·constructor
  ·intro h;split at h<;>exact absurd h de
  ·intro h;contradiction
theorem lim_add600{x y:Nat}(hx:(lim x).length<=128)(hy:(lim y).length<=128):(lim (x+y)).length<=600:=by
 have h1:=Bt (mG x) (Bb de hx);have h2:=Bt (mG y) (Bb de hy);have h3:x+y<4294967296^129:=by
  rw[By];generalize 4294967296^128=B at*;omega
 have:=qV h3;omega
theorem lim_mul600{x y:Nat}(hx:(lim x).length<=128)(hy:(lim y).length<=128):(lim (x*y)).length<=600:=by
 have h1:=Bt (mG x) (Bb de hx);have h2:=Bt (mG y) (Bb de hy);have h3:x*y<4294967296^(128+128):=by
  rw[Eo];exact Nat.mul_lt_mul'' h1 h2
 have:=qV h3;omega
def plSg(s:Bool)(x:Nat)(t:Bool)(y:Nat):Bool:=if s=t then s else if x<y then t else s
def plN(s:Bool)(x:Nat)(t:Bool)(y:Nat):Nat:=if s=t then x+y else if x<y then y-x else x-y
theorem plZ(s t:Bool)(x y:Nat):ZI (plSg s x t y) (plN s x t y)=ZI s x+ZI t y:=by
 unfold plSg plN;by_cases h:s=t
 ·subst h;rw[Ab rfl,Ab rfl]
  cases s<;>unfold ZI<;>simp<;>omega
 ·rw[Aa h,Aa h];by_cases h2:x<y
  ·rw[Ab h2,Ab h2]
   cases s<;>cases t<;>unfold ZI<;>simp at* <;>omega
  ·rw[Aa h2,Aa h2]
   cases s<;>cases t<;>unfold ZI<;>simp at* <;>omega
abbrev zV(z:Int):List D:=iV (decide (z<0),lim z.natAbs)
theorem sg_z{b:Bool}{n:Nat}(h:(lim n).length<=128):sgD b (lim n)= .tup [.agg (zV (ZI b n)),faD 0 0]:=by
 rw[<-uJ1 h,lim_len];have e1:(ZI b n).natAbs=n:=by cases b<;>unfold ZI<;>simp
 have e2:(b&&decide (0<n))=decide (ZI b n<0):=by
  cases b
  ·unfold ZI;simp
  ·unfold ZI;simp
 rw[zV,e1,e2]
theorem zOk{z:Int}(h:(lim z.natAbs).length<=128):uH (decide (z<0)) (lim z.natAbs)=true:=by
 unfold uH;rw[Aj,Dl,Aj,Aj,Ap,Ap,Ap,Ap];refine⟨h,?_⟩;rcases Bz (lim z.natAbs).length with h0|h0
 ·refine Or.inl ⟨h0,?_⟩;have h1:=lim_nil.1 (Bm h0);have h2:z=0:=by omega
  subst h2;rfl
 ·exact Or.inr ⟨h0,jY0 h0⟩
theorem zOks{a b:Int}(ha:(lim a.natAbs).length<=128)(hb:(lim b.natAbs).length<=128):∀k<[(decide (a<0),lim a.natAbs),(decide (b<0),lim b.natAbs)].length,uH ([(decide (a<0),lim a.natAbs),(decide (b<0),lim b.natAbs)].getD k (false,[])).1 ([(decide (a<0),lim a.natAbs),(decide (b<0),lim b.natAbs)].getD k (false,[])).2=true/\([(decide (a<0),lim a.natAbs),(decide (b<0),lim b.natAbs)].getD k (false,[])).2.length<=2000000:=by
 intro k hk;rcases k with _|_|k
 ·exact⟨zOk ha,by show(lim a.natAbs).length<=2000000;omega⟩
 ·exact⟨zOk hb,by show(lim b.natAbs).length<=2000000;omega⟩
 ·exact absurd hk (by simp)
theorem ZI_not(b:Int):ZI (!decide (b<0)) b.natAbs= -b:=by
 unfold ZI;by_cases h:b<0
 ·simp[h];omega
 ·simp[h];omega
theorem vT1(q:Bool)(n:Nat):(ZI q n).natAbs=n:=by cases q<;>unfold ZI<;>simp
theorem ZI_mul(s t:Bool)(x y:Nat):ZI (!(s==t)) (x*y)=ZI s x*ZI t y:=by
 cases s<;>cases t<;>unfold ZI<;>simp[Int.neg_mul,Int.mul_neg]
theorem mulZ(a b:Int):ZI (!(decide (a<0)==decide (b<0))) (a.natAbs*b.natAbs)=a*b:=by rw[ZI_mul,bO,bO]
theorem qJ0(s t:Bool)(x y:Nat)(hx:(lim x).length<=128)(hy:(lim y).length<=128):Fx 236 [.agg (iV (s,lim x)),.agg (iV (t,lim y))] (sgD (plSg s x t y) (lim (plN s x t y))):=by
 have hcm:=cmpN_neg x y;refine yD zJ Tryz.func236 rfl rfl rfl rfl rfl rfl ?_;intros;refine zK 100 ?_;refine zB (zK 200 ?_);refine zZ (fun c1=>?_) (fun c1=>?_)
 ·
  refine zB (zE zJ [] 300 rfl ?_);refine zF ?_;refine zQ _ (wJ0 _ _ om om (lim_add600 hx hy)) rfl ?_;refine zf (zA ?_);refine zB (zE zJ [] 400 rfl ?_);refine zF ?_;refine zQ _ (vW _ _) rfl ?_;refine zf (zA (zL (zO ?_)));have hst:s=t:=by simpa using c1
  exact u4 rfl (u9 (by rw[plSg,plN,Ab hst,Ab hst];rfl))
 ·
  refine zM (zA (zB ?_));refine zB (zE zJ [] 500 rfl ?_);refine zF ?_;refine zQ _ (wI0 _ _ om om) rfl ?_;refine zF ?_;refine zC (zA (zK 600 ?_));refine zZ (fun c5=>?_) (fun c5=>?_)
  ·
   refine yM zJ [] 700 ?_;refine zA ?_;refine zB (zE zJ [] 800 rfl ?_);refine zF ?_;refine zQ _ (zG0 _ _ om om om) rfl ?_;refine zf (zA ?_);refine zB (zE zJ [] 900 rfl ?_);refine zF ?_;refine zQ _ (vW _ _) rfl ?_;refine zf (zA (zL ?_));have hst:¬s=t:=by simpa using c1
   by_cases hxy:x<y
   ·first|(exact absurd hxy (by omega))|exact u4 rfl (u9 (by rw[plSg,plN,Aa hst,Aa hst,Ab hxy,Ab hxy];rfl))
   ·first|(exact absurd hxy (by omega))|exact u4 rfl (u9 (by rw[plSg,plN,Aa hst,Aa hst,Aa hxy,Aa hxy];rfl))
  ·
   refine zM (zA ?_);refine zB (zE zJ [] 800 rfl ?_);refine zF ?_;refine zQ _ (zG0 _ _ om om om) rfl ?_;refine zf (zA ?_);refine zB (zE zJ [] 900 rfl ?_);refine zF ?_;refine zQ _ (vW _ _) rfl ?_;refine zf (zA (zL ?_));have hst:¬s=t:=by simpa using c1
   by_cases hxy:x<y
   ·first|(exact absurd hxy (by omega))|exact u4 rfl (u9 (by rw[plSg,plN,Aa hst,Aa hst,Ab hxy,Ab hxy];rfl))
   ·first|(exact absurd hxy (by omega))|exact u4 rfl (u9 (by rw[plSg,plN,Aa hst,Aa hst,Aa hxy,Aa hxy];rfl))
theorem intAdd_ok(a b:Int)(ha:(lim a.natAbs).length<=128)(hb:(lim b.natAbs).length<=128)(hab:(lim (a+b).natAbs).length<=128):Fx 214 [.agg (zV a),.agg (zV b)] (.tup [.agg (zV (a+b)),faD 0 0]):=by
 have e:=plZ (decide (a<0)) (decide (b<0)) a.natAbs b.natAbs;rw[bO,bO]at e;have e2:(ZI (plSg (decide (a<0)) a.natAbs (decide (b<0)) b.natAbs) (plN (decide (a<0)) a.natAbs (decide (b<0)) b.natAbs)).natAbs=plN (decide (a<0)) a.natAbs (decide (b<0)) b.natAbs:=by generalize plSg (decide (a<0)) a.natAbs (decide (b<0)) b.natAbs=q;cases q<;>unfold ZI<;>simp
 rw[e]at e2;refine yD zJ Tryz.func214 rfl rfl rfl rfl rfl rfl ?_;intros;refine zK 100 ?_;refine zB ?_;refine zB (zE zJ [] 200 rfl ?_);refine zF ?_;refine zQ _ ((vL [(decide (a<0),lim a.natAbs),(decide (b<0),lim b.natAbs)] (zOks ha hb) (by show 2<=100;omega)).args ⟨u18 rfl,trivial⟩) rfl ?_;refine zF ?_;refine zC (zA (zK 300 ?_));refine zZ (fun c2=>?_) (fun c2=>?_)
 ·
  exact absurd c2 de
 ·
  refine zM (zA ?_);refine zB (zE zJ [] 500 rfl ?_);refine zF ?_;refine zQ _ (qJ0 (decide (a<0)) (decide (b<0)) a.natAbs b.natAbs ha hb) rfl ?_;refine zf (zA (zL ?_));exact u4 rfl (u9 (by have e3:=sg_z (b:=plSg (decide (a<0)) a.natAbs (decide (b<0)) b.natAbs) (n:=plN (decide (a<0)) a.natAbs (decide (b<0)) b.natAbs) (by rw[<-e2];exact hab);rw[e]at e3;exact e3))
theorem intSub_ok(a b:Int)(ha:(lim a.natAbs).length<=128)(hb:(lim b.natAbs).length<=128)(hab:(lim (a-b).natAbs).length<=128):Fx 235 [.agg (zV a),.agg (zV b)] (.tup [.agg (zV (a-b)),faD 0 0]):=by
 have e:=plZ (decide (a<0)) (!decide (b<0)) a.natAbs b.natAbs;rw[bO,ZI_not,<-Int.sub_eq_add_neg]at e;have e2:=vT1 (plSg (decide (a<0)) a.natAbs (!decide (b<0)) b.natAbs) (plN (decide (a<0)) a.natAbs (!decide (b<0)) b.natAbs);rw[e]at e2;refine yD zJ Tryz.func235 rfl rfl rfl rfl rfl rfl ?_;intros;refine zK 100 ?_;refine zB ?_;refine zB (zE zJ [] 200 rfl ?_);refine zF ?_;refine zQ _ ((vL [(decide (a<0),lim a.natAbs),(decide (b<0),lim b.natAbs)] (zOks ha hb) (by show 2<=100;omega)).args ⟨u18 rfl,trivial⟩) rfl ?_;refine zF ?_;refine zC (zA (zK 300 ?_));refine zZ (fun c2=>?_) (fun c2=>?_)
 ·
  exact absurd c2 de
 ·
  refine zM (zA ?_);refine zB (zE zJ [] 500 rfl ?_);refine zF ?_;refine zQ _ (qJ0 (decide (a<0)) (!decide (b<0)) a.natAbs b.natAbs ha hb) rfl ?_;refine zf (zA (zL ?_));exact u4 rfl (u9 (by have e3:=sg_z (b:=plSg (decide (a<0)) a.natAbs (!decide (b<0)) b.natAbs) (n:=plN (decide (a<0)) a.natAbs (!decide (b<0)) b.natAbs) (by rw[<-e2];exact hab);rw[e]at e3;exact e3))
theorem intMul_ok(a b:Int)(ha:(lim a.natAbs).length<=128)(hb:(lim b.natAbs).length<=128)(hab:(lim (a*b).natAbs).length<=128):Fx 233 [.agg (zV a),.agg (zV b)] (.tup [.agg (zV (a*b)),faD 0 0]):=by
 have e:=mulZ a b;have e2:=vT1 (!(decide (a<0)==decide (b<0))) (a.natAbs*b.natAbs);rw[e]at e2;refine yD zJ Tryz.func233 rfl rfl rfl rfl rfl rfl ?_;intros;refine zK 100 ?_;refine zB ?_;refine zB (zE zJ [] 200 rfl ?_);refine zF ?_;refine zQ _ ((vL [(decide (a<0),lim a.natAbs),(decide (b<0),lim b.natAbs)] (zOks ha hb) (by show 2<=100;omega)).args ⟨u18 rfl,trivial⟩) rfl ?_;refine zF ?_;refine zC (zA (zK 300 ?_));refine zZ (fun c2=>?_) (fun c2=>?_)
 ·
  exact absurd c2 de
 ·
  refine zM (zA ?_);refine zB (zE zJ [] 500 rfl ?_);refine zF ?_;refine zQ _ (natMul_ok _ _ om om (lim_mul600 ha hb)) rfl ?_;refine zf (zA ?_);refine zB (zE zJ [] 600 rfl ?_);refine zF ?_;refine zQ _ (vW _ _) rfl ?_;refine zf (zA (zL ?_));exact u4 rfl (u9 (by have e3:=sg_z (b:= !(decide (a<0)==decide (b<0))) (n:=a.natAbs*b.natAbs) (by rw[<-e2];exact hab);rw[e]at e3;exact e3))
variable{md me:Bool}
theorem cmpZ_of{a b:Int}:(a<0->b<0-> -cmpN a.natAbs b.natAbs=cmpZ a b)/\(a<0->¬b<0-> -1=cmpZ a b)/\(¬a<0->b<0->1=cmpZ a b)/\(¬a<0->¬b<0->cmpN a.natAbs b.natAbs=cmpZ a b):=by
 unfold cmpZ cmpN;refine⟨fun h1 h2=>?_,fun h1 h2=>?_,fun h1 h2=>?_,fun h1 h2=>?_⟩
 ·by_cases h:a<b
  ·rw[Ab h,Aa om,Ab om]
  ·rw[Aa h];by_cases h3:b<a
   ·rw[Ab h3,Ab om];rfl
   ·rw[Aa h3,Aa om,Aa om];rfl
 ·rw[Ab om]
 ·rw[Aa om,Ab om]
 ·by_cases h:a<b
  ·rw[Ab h,Ab om]
  ·rw[Aa h,Aa om];by_cases h3:b<a
   ·rw[Ab h3,Ab om]
   ·rw[Aa h3,Aa om]
theorem intCmp_ok(a b:Int)(ha:(lim a.natAbs).length<=128)(hb:(lim b.natAbs).length<=128):Fx 215 [.agg (zV a),.agg (zV b)] (.tup [.v (.int .i64 (cmpZ a b)),faD 0 0]):=by
 have hcz:= @cmpZ_of a b;have hcn: -1<=cmpN a.natAbs b.natAbs/\cmpN a.natAbs b.natAbs<=1:=by unfold cmpN;split;exact⟨by decide,by decide⟩;split<;>exact⟨by decide,by decide⟩
 refine yD zJ Tryz.func215 rfl rfl rfl rfl rfl rfl ?_;intros;refine zK 100 ?_;refine zB ?_;refine zB (zE zJ [] 200 rfl ?_);refine zF ?_;refine zQ _ ((vL [(decide (a<0),lim a.natAbs),(decide (b<0),lim b.natAbs)] (zOks ha hb) (by show 2<=100;omega)).args ⟨u18 rfl,trivial⟩) rfl ?_;refine zF ?_;refine zC (zA (zK 300 ?_));refine zZ (fun c2=>?_) (fun c2=>?_)
 ·
  exact absurd c2 de
 ·
  refine zM (zA ?_);refine zB (zE zJ [] 500 rfl ?_);refine zF ?_;refine zQ _ (wI0 _ _ om om) rfl ?_;refine zF ?_;refine zC (zA (zB (zP (zK 600 ?_))));refine zZ (fun c5=>?_) (fun c5=>?_)
  ·
   refine zK 700 ?_;refine zL (zR (zO ?_));have h:=hcz.1 om om;exact u4 rfl (u19 ⟨u10 (by rw[InI.wrap (ini om om),<-h];omega),u6 _,trivial⟩)
  ·
   refine zK 800 ?_;refine zZ (fun c7=>?_) (fun c7=>?_)
   ·
    refine zK 900 ?_;refine zL (zR (zO ?_));exact u4 rfl (u19 ⟨u10 (by first|(have h:=hcz.1 (by first|omega|(clear hcz;simp_all;done)|(clear hcz;simp_all;omega)) (by first|omega|(clear hcz;simp_all;done)|(clear hcz;simp_all;omega));first|exact h|omega|(rw[<-h];simp;done))|exact hcz.2.1 (by first|omega|(clear hcz;simp_all;done)|(clear hcz;simp_all;omega)) (by first|omega|(clear hcz;simp_all;done)|(clear hcz;simp_all;omega))|exact hcz.2.2.1 (by first|omega|(clear hcz;simp_all;done)|(clear hcz;simp_all;omega)) (by first|omega|(clear hcz;simp_all;done)|(clear hcz;simp_all;omega))|exact hcz.2.2.2 (by first|omega|(clear hcz;simp_all;done)|(clear hcz;simp_all;omega)) (by first|omega|(clear hcz;simp_all;done)|(clear hcz;simp_all;omega))),u6 _,trivial⟩)
   ·
    refine zK 1000 ?_;refine zZ (fun c9=>?_) (fun c9=>?_)
    ·
     refine zK 1100 ?_;refine zL (zR (zO ?_));exact u4 rfl (u19 ⟨u10 (by first|(have h:=hcz.1 (by first|omega|(clear hcz;simp_all;done)|(clear hcz;simp_all;omega)) (by first|omega|(clear hcz;simp_all;done)|(clear hcz;simp_all;omega));first|exact h|omega|(rw[<-h];simp;done))|exact hcz.2.1 (by first|omega|(clear hcz;simp_all;done)|(clear hcz;simp_all;omega)) (by first|omega|(clear hcz;simp_all;done)|(clear hcz;simp_all;omega))|exact hcz.2.2.1 (by first|omega|(clear hcz;simp_all;done)|(clear hcz;simp_all;omega)) (by first|omega|(clear hcz;simp_all;done)|(clear hcz;simp_all;omega))|exact hcz.2.2.2 (by first|omega|(clear hcz;simp_all;done)|(clear hcz;simp_all;omega)) (by first|omega|(clear hcz;simp_all;done)|(clear hcz;simp_all;omega))),u6 _,trivial⟩)
    ·
     refine zM (zN (zA (zK 1200 ?_)));refine zL ?_;exact u4 rfl (u19 ⟨u10 (by first|(have h:=hcz.1 (by first|omega|(clear hcz;simp_all;done)|(clear hcz;simp_all;omega)) (by first|omega|(clear hcz;simp_all;done)|(clear hcz;simp_all;omega));first|exact h|omega|(rw[<-h];simp;done))|exact hcz.2.1 (by first|omega|(clear hcz;simp_all;done)|(clear hcz;simp_all;omega)) (by first|omega|(clear hcz;simp_all;done)|(clear hcz;simp_all;omega))|exact hcz.2.2.1 (by first|omega|(clear hcz;simp_all;done)|(clear hcz;simp_all;omega)) (by first|omega|(clear hcz;simp_all;done)|(clear hcz;simp_all;omega))|exact hcz.2.2.2 (by first|omega|(clear hcz;simp_all;done)|(clear hcz;simp_all;omega)) (by first|omega|(clear hcz;simp_all;done)|(clear hcz;simp_all;omega))),u6 _,trivial⟩)
theorem cW(a:Int)(ha:(lim a.natAbs).length<=40):Fx 208 [.agg (zV a)] (.v (.bool true)):=by
 have hk:=zOk (z:=a) om;refine yD zJ Tryz.func208 rfl rfl rfl rfl rfl rfl ?_;intros;refine zK 100 ?_;refine zB (zE zJ [] 200 rfl ?_);refine zF ?_;refine zQ _ (gG (decide (a<0)) (lim a.natAbs) om) rfl ?_;refine zf (zA (zL ?_));exact u4 rfl (u7 (by simp[hk];omega))
variable{md me:Bool}
theorem cO0(c i:Int):Fx 179 [.v (.int .i64 c),.v (.int .i64 i)] (faD c i):=by
 refine yD zJ Tryz.func179 rfl rfl rfl rfl rfl rfl ?_;intros;refine zK 100 ?_;refine zK 200 ?_;refine zL ?_;exact u4 rfl (u6 _)
theorem tN(a b:Int)(ha:(lim a.natAbs).length<=128)(hb:(lim b.natAbs).length<=128)(hab:(lim (a+b).natAbs).length<=128):Fx 181 [.agg (zV a),.agg (zV b)] (.agg (zV (a+b))):=by
 refine yD zJ Tryz.func181 rfl rfl rfl rfl rfl rfl ?_;intros;refine zK 100 ?_;refine zB (zE zJ [] 200 rfl ?_);refine zF ?_;refine zQ _ (intAdd_ok a b ha hb hab) rfl ?_;refine zF ?_;refine zC (zA (zK 300 ?_));refine zL ?_;exact u4 rfl (u6 _)
theorem tM(a b:Int)(ha:(lim a.natAbs).length<=128)(hb:(lim b.natAbs).length<=128)(hab:(lim (a-b).natAbs).length<=128):Fx 212 [.agg (zV a),.agg (zV b)] (.agg (zV (a-b))):=by
 refine yD zJ Tryz.func212 rfl rfl rfl rfl rfl rfl ?_;intros;refine zK 100 ?_;refine zB (zE zJ [] 200 rfl ?_);refine zF ?_;refine zQ _ (intSub_ok a b ha hb hab) rfl ?_;refine zF ?_;refine zC (zA (zK 300 ?_));refine zL ?_;exact u4 rfl (u6 _)
theorem mY0(a b:Int)(ha:(lim a.natAbs).length<=128)(hb:(lim b.natAbs).length<=128)(hab:(lim (a*b).natAbs).length<=128):Fx 209 [.agg (zV a),.agg (zV b)] (.agg (zV (a*b))):=by
 refine yD zJ Tryz.func209 rfl rfl rfl rfl rfl rfl ?_;intros;refine zK 100 ?_;refine zB (zE zJ [] 200 rfl ?_);refine zF ?_;refine zQ _ (intMul_ok a b ha hb hab) rfl ?_;refine zF ?_;refine zC (zA (zK 300 ?_));refine zL ?_;exact u4 rfl (u6 _)
theorem pI(a b:Int)(ha:(lim a.natAbs).length<=128)(hb:(lim b.natAbs).length<=128):Fx 182 [.agg (zV a),.agg (zV b)] (.v (.bool (decide (a<b)))):=by
 refine yD zJ Tryz.func182 rfl rfl rfl rfl rfl rfl ?_;intros;refine zK 100 ?_;refine zB (zE zJ [] 200 rfl ?_);refine zF ?_;refine zQ _ (intCmp_ok a b ha hb) rfl ?_;refine zF ?_;refine zC (zA (zK 300 ?_));refine zL ?_;exact u4 rfl (u7 (by unfold cmpZ;split<;>(try split)<;>simp_all<;>omega))
abbrev rgD(a b c:Int):List D:=[.v (.bool (decide (a<0))),usD (lim a.natAbs),.v (.bool (decide (b<0))),usD (lim b.natAbs),.v (.bool (decide (c<0))),usD (lim c.natAbs)]
theorem rgValid_ok(a b c:Int)(ha:(lim a.natAbs).length<=40)(hb:(lim b.natAbs).length<=40)(hc:(lim c.natAbs).length<=40)(h0:0<(lim c.natAbs).length):Fx 178 [.agg (rgD a b c)] (.v (.bool true)):=by
 refine yD zJ Tryz.func178 rfl rfl rfl rfl rfl rfl ?_;intros;refine zK 100 ?_;refine zB (zE zJ [] 200 rfl ?_);refine zF ?_;refine zQ _ (cW a ha) rfl ?_;refine zF ?_;refine yR _ (fun hg6=>cW _ ao) rfl ?_;refine zF ?_;refine yR _ (fun hg11=>cW _ ao) rfl ?_;refine zf (zA (zL ?_));exact u4 rfl (u7 (by simp_all))
structure KD(U V H u2 v1 v2:Nat)where
 E:Nat
 u':Nat
 v':Nat
 hU:U=H*(4294967296*E)+u2*E+u'
 hV:V=v1*(4294967296*E)+v2*E+v'
 lu:u'<E
 lv:v'<E
 lu2:u2<4294967296
 lv2:v2<4294967296
 lv1:0<v1
 lt:U<V*4294967296
theorem pW0{g v1 r H:Nat}(e:g*v1+r=H)(E:Nat):H*(4294967296*E)=g*v1*(4294967296*E)+r*4294967296*E:=by rw[<-e,Bo,Bp r]
section
variable{U V H u2 v1 v2:Nat}(K:KD U V H u2 v1 v2)
include K
theorem KD.V_pos:0<V:=by
 have h1:=K.lv;have h2:=K.lv1;have h3:0<v1*(4294967296*K.E):=Nat.mul_pos h2 om;have:=K.hV;omega
theorem KD.V_lt:V<(v1+1)*(4294967296*K.E):=by
 have h1:=K.hV;have h2:(v2+1)*K.E<=4294967296*K.E:=Bh _ K.lv2;have h3:=K.lv;rw[Bo]at h2⊢;omega
theorem KD.U_lt:U<(H+1)*(4294967296*K.E):=by
 have h1:=K.hU;have h2:(u2+1)*K.E<=4294967296*K.E:=Bh _ K.lu2;have h3:=K.lu;rw[Bo]at h2⊢;omega
theorem KD.H_lt:H<(v1+1)*4294967296:=by
 have h1:=K.V_lt;have h2:=K.lt;have h3:V*4294967296<(v1+1)*(4294967296*K.E)*4294967296:=by omega
 have h4:H*(4294967296*K.E)<(v1+1)*4294967296*(4294967296*K.E):=by
  have:=K.hU;rw[Nat.mul_right_comm (v1+1)];omega
 exact Nat.lt_of_mul_lt_mul_right h4
theorem KD.q_lt:U/V<4294967296:=(Dw K.V_pos).2 (by rw[Aw];exact K.lt)
theorem KD.q_le:U/V<=H/v1:=by
 rw[Nat.le_div_iff_mul_le K.lv1];have h1:U/V*V<=U:=Nat.div_mul_le_self U V;have h2:=K.U_lt;have h3:U/V*v1*(4294967296*K.E)<=U/V*V:=by
  rw[Bp];refine Cv _ ?_;have:=K.hV;omega
 exact Nat.le_of_lt_succ (Nat.lt_of_mul_lt_mul_right (Nat.lt_of_le_of_lt (At h3 h1) h2))
theorem KD.down{g r:Nat}(e:g*v1+r=H)(hq:U/V<=g)(h:4294967296<=g\/r*4294967296+u2<g*v2):U/V<g:=by
 rcases Br (U/V) g with h0|h0
 ·exact h0
 ·exfalso;have hb:=K.q_lt;have h:=h.resolve_left om;have h1:g*V<=U:=At (Bh _ h0) (Nat.div_mul_le_self U V);rw[K.hV,Bv,Bv,<-Bp,<-Bp g v2]at h1;have h2:=K.hU;have h3:=K.lu;have h4:=pW0 e K.E;have h5:(r*4294967296+u2+1)*K.E<=g*v2*K.E:=Bh _ h;rw[Bo,Bo]at h5;omega
theorem KD.fin{g r:Nat}(e:g*v1+r=H)(hq:U/V<=g)(h:4294967296<=r\/g<4294967296/\g*v2<=r*4294967296+u2):g<4294967296/\g<=U/V+1:=by
 have hU:=K.hU;have h4:=pW0 e K.E;have hV:g*V=g*v1*(4294967296*K.E)+g*v2*K.E+g*K.v':=by
  conv=>lhs;rw[K.hV]
  rw[Bv,Bv,<-Bp,<-Bp g v2]
 have hg:g<4294967296:=by
  rcases h with h|h
  ·have h1:=K.H_lt;rw[Bo]at h1;have h2:g*v1<4294967296*v1:=by rw[Aw 4294967296];omega
   exact Nat.lt_of_mul_lt_mul_right h2
  ·exact h.1
 refine⟨hg,?_⟩;have hv':g*K.v'<=4294967296*K.E:=Nat.mul_le_mul (Dn hg) (Dn K.lv);have hVp:=K.V_pos;rcases h with h|h
 ·have h1:(v2*K.E+K.v')<=4294967296*K.E:=by
   have h2:(v2+1)*K.E<=4294967296*K.E:=Bh _ K.lv2;have h3:=K.lv;rw[Bo]at h2;omega
  have h2:g*(v2*K.E+K.v')<=r*(4294967296*K.E):=Nat.mul_le_mul om h1;rw[Bv,<-Bp,<-Bp]at h2;have:g*V<=U:=by omega
  have:=(Nat.le_div_iff_mul_le hVp).2 this;omega
 ·have h1:g*v2*K.E<=(r*4294967296+u2)*K.E:=Bh _ h.2;rw[Bo]at h1;have h2:4294967296*K.E<=V:=by
   have h3:1*(4294967296*K.E)<=v1*(4294967296*K.E):=Bh _ K.lv1;have:=K.hV;omega
  have h3:g*V<=U+V:=by omega
  have h4:(g-1)*V<=U:=by rw[Nat.sub_mul];omega
  have:=(Nat.le_div_iff_mul_le hVp).2 h4;omega
end
theorem kd_lists{u v:List Nat}{n:Nat}(hu:u.length=n+1)(hv:v.length=n)(hn:2<=n)(gu:Lg u)(gv:Lg v)(ht:0<v.getD (n-1) 0)(h:VL u<VL v*4294967296):
  Nonempty (KD (VL u) (VL v) (u.getD n 0*4294967296+u.getD (n-1) 0) (u.getD (n-2) 0) (v.getD (n-1) 0) (v.getD (n-2) 0)):=by
 obtain⟨m,rfl⟩:∃m,n=m+2:=⟨n-2,by omega⟩;rw[show m+2-1=m+1 by omega,show m+2-2=m by omega]at*;have t1:=bO0 hu;have t2:=qL u (m+1);have t3:=qL u m;have s1:=bO0 (l:=v) (n:=m+1) hv;have s2:=qL v m;have lu:=L_lt (gu.take m);have lv:=L_lt (gv.take m);rw[As,De om]at lu lv;have p1:4294967296^(m+1)=4294967296*4294967296^m:=by rw[By,Aw]
 have p2:4294967296^(m+2)=4294967296*(4294967296*4294967296^m):=by rw[By,By,Aw,Aw (4294967296^m)]
 rw[p2]at t1;rw[p1]at t2 s1;refine⟨⟨4294967296^m,VL (u.take m),VL (v.take m),?_,?_,lu,lv,qG gu _,qG gv _,ht,h⟩⟩
 ·rw[t1,t2,t3,Bo,Aw (4294967296^m),Aw (u.getD (m+2) 0*4294967296),Aw (u.getD (m+1) 0)];have e:4294967296*(4294967296*4294967296^m)*u.getD (m+2) 0=4294967296*4294967296^m*(u.getD (m+2) 0*4294967296):=by
   rw[Aw (u.getD (m+2) 0),<-Bp (4294967296*4294967296^m),Aw 4294967296 (4294967296*4294967296^m)]
  omega
 ·rw[s1,s2,Aw (4294967296^m),Aw (v.getD (m+1) 0)];omega
structure Gu(U V H v1:Nat)where
 g:Nat
 r:Nat
 e:g*v1+r=H
 q:U/V<=g
 lr:r<4294967296
def Gu.start{U V H u2 v1 v2:Nat}(K:KD U V H u2 v1 v2)(h:v1<4294967296):Gu U V H v1:=⟨H/v1,H%v1,by rw[Aw];exact Dd H v1,K.q_le,Nat.lt_trans (Cx _ K.lv1) h⟩
theorem Gu.pos{U V H u2 v1 v2:Nat}(x:Gu U V H v1)(K:KD U V H u2 v1 v2)(h:4294967296<=x.g\/x.r*4294967296+u2<x.g*v2):U/V<=x.g-1/\0<x.g/\(x.g-1)*v1+(x.r+v1)=H:=by
 have h1:=K.down x.e x.q h;have h2:=x.e;have h0:0<x.g:=Nat.lt_of_le_of_lt (Aq _) h1;refine⟨Nat.le_sub_one_of_lt h1,h0,?_⟩;have h3:(x.g-1+1)*v1=(x.g-1)*v1+v1:=by rw[Bo,Nat.one_mul]
 rw[show x.g-1+1=x.g from Nat.sub_add_cancel h0]at h3;clear h1 h;omega
def Gu.next{U V H u2 v1 v2:Nat}(x:Gu U V H v1)(K:KD U V H u2 v1 v2)(h:4294967296<=x.g\/x.r*4294967296+u2<x.g*v2)(hr:x.r+v1<4294967296):Gu U V H v1:=⟨x.g-1,x.r+v1,(x.pos K h).2.2,(x.pos K h).1,hr⟩
theorem Gu.stop{U V H u2 v1 v2:Nat}(x:Gu U V H v1)(K:KD U V H u2 v1 v2)(h:4294967296<=x.g\/x.r*4294967296+u2<x.g*v2)(hr:4294967296<=x.r+v1):x.g-1<4294967296/\U/V<=x.g-1/\x.g-1<=U/V+1:=
 have h1:=K.fin (x.pos K h).2.2 (x.pos K h).1 (Or.inl hr)
 ⟨h1.1,(x.pos K h).1,h1.2⟩
theorem Gu.done{U V H u2 v1 v2:Nat}(x:Gu U V H v1)(K:KD U V H u2 v1 v2)(h:x.g<4294967296)(h2:x.g*v2<=x.r*4294967296+u2):x.g<4294967296/\U/V<=x.g/\x.g<=U/V+1:=
 have h1:=K.fin x.e x.q (Or.inr ⟨h,h2⟩)
 ⟨h1.1,x.q,h1.2⟩
structure SuD(u v:List Nat)(g:Nat)where
 k:Nat
 c:Nat
 b:Nat
 o:List Nat
 eq:VL o+g*VL (v.take k)=VL (u.take k)+(b+c)*4294967296^k
 lo:o.length=k
 lg:Lg o
 hc:c<4294967296
 hb:b<=1
 h0:v.length<k->c=0
 le:k<=u.length
def SuD.start(u v:List Nat)(g:Nat):SuD u v g:=⟨0,0,0,[],by simp[VL],rfl,Lg.nil,by decide,by decide,fun _=>rfl,Aq _⟩
def SuD.s{u v:List Nat}{g:Nat}(x:SuD u v g):Nat:=x.c+g*v.getD x.k 0
theorem SuD.s_lt{u v:List Nat}{g:Nat}(x:SuD u v g)(hg:g<4294967296)(gv:Lg v):x.s<18446744073709551616:=by
 have h1:=tT hg (qG gv x.k);have h3:=x.hc;unfold SuD.s;omega
theorem su_step{u v o:List Nat}{g k c b s y d:Nat}(h:VL o+g*VL (v.take k)=VL (u.take k)+(b+c)*4294967296^k)(ho:o.length=k)(hs:s=c+g*v.getD k 0)(hy:y+s%4294967296+b=u.getD k 0+4294967296*d):
  VL (o++[y])+g*VL (v.take (k+1))=VL (u.take (k+1))+(d+s/4294967296)*4294967296^(k+1):=by
 rw[mL,ho,qL u,qL v,By,Bv g];have e0:g*(4294967296^k*v.getD k 0)=4294967296^k*(g*v.getD k 0):=Nat.mul_left_comm _ _ _;rw[e0];generalize 4294967296^k=B at*;generalize g*v.getD k 0=M at*;generalize g*VL (v.take k)=R at*;have e:s=4294967296*(s/4294967296)+s%4294967296:=(Dd s 4294967296).symm;have e1:y+b+c+M=u.getD k 0+4294967296*(d+s/4294967296):=by omega
 have e2:B*y+B*b+B*c+B*M=B*u.getD k 0+B*(4294967296*(d+s/4294967296)):=by rw[<-Bv,<-Bv,<-Bv,e1,Bv]
 have e4:(d+s/4294967296)*(B*4294967296)=B*(4294967296*(d+s/4294967296)):=by rw[Aw,Bp]
 have e5:(b+c)*B=B*b+B*c:=by rw[Bo,Aw b,Aw c]
 omega
def SuD.next{u v:List Nat}{g:Nat}(x:SuD u v g)(gu:Lg u)(gv:Lg v)(hg:g<4294967296)(h:x.k<u.length):SuD u v g:=⟨x.k+1,x.s/4294967296,lsB (u.getD x.k 0) (x.s%4294967296) x.b,x.o++[lsD (u.getD x.k 0) (x.s%4294967296) x.b],su_step x.eq x.lo rfl (wN1 (qG gu _) (Cx _ de) x.hb),by simp[x.lo],x.lg.snoc (wM1 _ _ _),by have:=x.s_lt hg gv;omega,uT1 _ _ _,fun h1=>by
 have h2:x.s=x.c:=by unfold SuD.s;rw[jW om];omega
 rw[h2];exact Ei x.hc,h⟩
theorem SuD.fin{u v:List Nat}{g:Nat}(x:SuD u v g)(h:u.length<=x.k)(hl:v.length<u.length):VL x.o+g*VL v=VL u+x.b*4294967296^u.length/\x.o.length=u.length:=by
 have hk:=x.le;have e:x.k=u.length:=by omega
 have h1:=x.eq;rw[x.h0 om,e,Ai (Ar _),Ai om]at h1;exact⟨h1,by rw[x.lo,e]⟩
theorem dg_exact{u v:List Nat}{g:Nat}(x:SuD u v g)(h:u.length<=x.k)(hl:v.length<u.length)(hb:x.b=0)(hp:0<VL v)(hq:VL u/VL v<=g):g=VL u/VL v/\VL x.o=VL u%VL v:=by
 have h1:=(x.fin h hl).1;rw[hb]at h1;have h2:g*VL v<=VL u:=by omega
 have h3:=(Nat.le_div_iff_mul_le hp).2 h2;have e:g=VL u/VL v:=by omega
 refine⟨e,?_⟩;have h4:=Dd (VL u) (VL v);rw[<-e,Aw]at h4;omega
theorem ad_fin{w v:List Nat}{n:Nat}(x:PlL w v)(hw:w.length=n+1)(hv:v.length=n)(hk:x.k=n):VL (x.o++[(w.getD n 0+x.c)%4294967296])+(w.getD n 0+x.c)/4294967296*4294967296^(n+1)=VL w+VL v:=by
 have h1:=x.eq;rw[hk,Ai (l:=v) om]at h1;rw[mL,x.lo,hk,bO0 hw,By];generalize w.getD n 0=t at*;generalize x.c=c at*;generalize 4294967296^n=B at*;have e:=Dd (t+c) 4294967296;have e2:B*(t+c)=B*(4294967296*((t+c)/4294967296))+B*((t+c)%4294967296):=by rw[<-Bv,e]
 have e3:B*(t+c)=B*t+B*c:=Bv _ _ _;have e4:(t+c)/4294967296*(B*4294967296)=B*(4294967296*((t+c)/4294967296)):=by rw[Aw,Bp]
 have e5:c*B=B*c:=Aw _ _;omega
theorem dg_back{u v:List Nat}{g n:Nat}(x:SuD u v g)(hu:u.length=n+1)(hv:v.length=n)(h:u.length<=x.k)(gv:Lg v)(hb:x.b=1)(hp:0<VL v)(hq:g<=VL u/VL v+1)(y:PlL x.o v)(hk:y.k=n):
  0<g/\g-1=VL u/VL v/\VL (y.o++[(x.o.getD n 0+y.c)%4294967296])=VL u%VL v:=by
 obtain⟨h1,h2⟩:=x.fin h om;rw[hb,hu]at h1;have h3:=ad_fin y om hv hk;have h4:=L_lt x.lg;rw[h2,hu]at h4;have h5:Lg (y.o++[(x.o.getD n 0+y.c)%4294967296]):=y.lg.snoc (Cx _ de);have h6:=L_lt h5;rw[Ae,y.lo,hk,Co]at h6;have h7:VL u<g*VL v:=by omega
 have h8:VL u/VL v<g:=(Dw hp).2 h7;have e:g=VL u/VL v+1:=Nat.le_antisymm hq h8;have h9:=Dd (VL u) (VL v);have h10:=Cx (VL u) hp;have h11:=L_lt gv;rw[hv]at h11;have h12:4294967296^n<=4294967296^(n+1):=Bb de om;refine⟨by rw[e];exact Nat.succ_pos _,by rw[e];exact Nat.add_sub_cancel _ _,?_⟩;have h13:g*VL v=VL v*(VL u/VL v)+VL v:=by rw[e,Bo,Nat.one_mul,Aw]
 generalize VL (y.o++[(x.o.getD n 0+y.c)%4294967296])=R at*;generalize (x.o.getD n 0+y.c)/4294967296=d at*;generalize 4294967296^(n+1)=B at*;generalize VL v*(VL u/VL v)=Q at*;generalize VL u%VL v=M at*;clear h7 h8 hq;have h14:R+d*B=M+B:=by omega
 have h15:d=1:=by
  rcases Br d 1 with h16|h16
  ·rw[show d=0 by omega]at h14;omega
  ·rcases Br d 2 with h17|h17
   ·omega
   ·have:2*B<=d*B:=Bh _ h17;omega
 rw[h15]at h14;omega
theorem win_V{U:List Nat}{j n V:Nat}(hg:Lg U)(hj:j+n+1<=U.length)(hV:V<=4294967296^n)(hlt:VL (U.drop (j+1))<V):
  VL ((U.drop j).take (n+1))=VL (U.drop j)/\VL ((U.drop j).take (n+1))<V*4294967296/\VL (U.drop (j+n+1))=0/\VL (U.drop j)=U.getD j 0+4294967296*VL (U.drop (j+1)):=by
 have h1:=vP U j;have h2:=qG hg j;have h3:=wQ (U.drop j) (n+1) (by rw[Bk];omega);rw[List.drop_drop,<-Ed]at h3;have h4:VL (U.drop j)<V*4294967296:=by omega
 have h5:V*4294967296<=4294967296^(n+1):=by rw[By];exact Bh _ hV
 have h6:VL (U.drop (j+n+1))=0:=by
  rcases Bz (VL (U.drop (j+n+1)))with h|h
  ·exact h
  ·have:4294967296^(n+1)*1<=4294967296^(n+1)*VL (U.drop (j+n+1)):=Cv _ h;omega
 rw[h6,Nat.mul_zero,Ck]at h3;exact⟨h3.symm,by omega,h6,h1⟩
structure DvL(u v:List Nat)(m n:Nat)where
 k:Nat
 U:List Nat
 o:List Nat
 hU:U.length=m+n
 gU:Lg U
 ho:o.length=m
 go:Lg o
 low:U.take k=u.take k
 lt:VL (U.drop k)<VL v
 eq:VL (u.drop k)=VL (o.drop k)*VL v+VL (U.drop k)
 le:k<=m
def DvL.start{u v:List Nat}{m n:Nat}(hu:u.length=m+n)(gu:Lg u)(h:VL (u.drop m)<VL v):DvL u v m n:=
 ⟨m,u,List.replicate m 0,hu,gu,by simp,cG _,rfl,h,by rw[Bd (l:=List.replicate m 0) (by simp),xU0,Nat.zero_mul,Cp],Ar _⟩
theorem drop_ge_congr{u U:List Nat}{k j:Nat}(h:U.take k=u.take k)(hj:j<k):U.getD j 0=u.getD j 0:=by
 have:(U.take k)[j]?=(u.take k)[j]?:=by rw[h]
 rw[Df,Df,Ab hj,Ab hj]at this;rw[Af,Af,this]
section
variable{u v:List Nat}{m n:Nat}
def DvL.W(x:DvL u v m n):List Nat:=(x.U.drop (x.k-1)).take (n+1)
def DvL.q(x:DvL u v m n):Nat:=VL x.W/VL v
def DvL.R(x:DvL u v m n):List Nat:=x.U.take (x.k-1)++limN (n+1) (VL x.W%VL v)++x.U.drop (x.k-1+n+1)
theorem DvL.facts(x:DvL u v m n)(gv:Lg v)(hv:v.length=n)(h:0<x.k):VL x.W=VL (x.U.drop (x.k-1))/\VL x.W<VL v*4294967296/\VL (x.U.drop (x.k-1+n+1))=0/\VL (x.U.drop (x.k-1))=x.U.getD (x.k-1) 0+4294967296*VL (x.U.drop x.k)/\x.W.length=n+1/\Lg x.W/\x.q<4294967296:=by
 have h1:=x.le;have h2:=x.hU;have h3:=L_lt gv;rw[hv]at h3;have h4:x.k-1+1=x.k:=by omega
 have h5:=win_V (U:=x.U) (j:=x.k-1) (n:=n) (V:=VL v) x.gU om (Dn h3) (by rw[h4];exact x.lt);rw[h4]at h5;refine⟨h5.1,h5.2.1,h5.2.2.1,h5.2.2.2,by unfold DvL.W;rw[As,Bk];omega,fun y hy=>x.gU y (Dj (Cu hy)),?_⟩;unfold DvL.q;have hp:0<VL v:=Nat.lt_of_le_of_lt (Aq _) x.lt;rw[Dw hp,Aw];exact h5.2.1
theorem DvL.rlt(x:DvL u v m n)(gv:Lg v)(hv:v.length=n):VL x.W%VL v<4294967296^(n+1):=by
 have h3:=L_lt gv;rw[hv]at h3;have hp:0<VL v:=Nat.lt_of_le_of_lt (Aq _) x.lt;have h4:=Cx (VL x.W) hp;have h5:4294967296^n<=4294967296^(n+1):=Bb de om;omega
theorem DvL.Rd(x:DvL u v m n)(gv:Lg v)(hv:v.length=n)(h:0<x.k):x.R.length=m+n/\x.R.take (x.k-1)=u.take (x.k-1)/\VL (x.R.drop (x.k-1))=VL x.W%VL v/\Lg x.R:=by
 have h1:=x.le;have h2:=x.hU;obtain⟨f1,f2,f3,f4,f5,f6,f7⟩:=x.facts gv hv h;have ht:(x.U.take (x.k-1)).length=x.k-1:=by rw[As];omega
 refine⟨?_,?_,?_,?_⟩
 ·unfold DvL.R;rw[Ae,Ae,gE,Bk,ht];omega
 ·unfold DvL.R;rw[Cg,Dx om,List.take_take,Nat.min_self];have:=x.low;have e:x.k-1=min (x.k-1) x.k:=by omega
  rw[e,<-List.take_take,this,List.take_take]
 ·unfold DvL.R;rw[Cg,List.drop_append,Bd om,ht,Nat.sub_self,Do,Dq,vD0,f3,Nat.mul_zero,Ck,bK0 (x.rlt gv hv)]
 ·unfold DvL.R;intro y hy;rcases Av.1 hy with hy|hy
  ·rcases Av.1 hy with hy|hy
   ·exact x.gU y (Cu hy)
   ·exact bC _ _ y hy
  ·exact x.gU y (Dj hy)
theorem dv_step{a b q V W Q R S:Nat}(h1:b=Q*V+S)(h2:a+4294967296*S=W)(hq:V*q+R=W):a+4294967296*b=(q+4294967296*Q)*V+R:=by
 rw[h1,Bv,Bo,Aw q V,Bp 4294967296 Q V];omega
def DvL.next(x:DvL u v m n)(gv:Lg v)(hv:v.length=n)(h:0<x.k):DvL u v m n:=
 ⟨x.k-1,x.R,x.o.set (x.k-1) x.q,(x.Rd gv hv h).1,(x.Rd gv hv h).2.2.2,by rw[Bu];exact x.ho,Lg.set x.go _ (x.facts gv hv h).2.2.2.2.2.2,(x.Rd gv hv h).2.1,by
  rw[(x.Rd gv hv h).2.2.1];exact Cx _ (Nat.lt_of_le_of_lt (Aq _) x.lt),by
  have h1:=x.le;have h2:=x.ho;obtain⟨f1,f2,f3,f4,f5,f6,f7⟩:=x.facts gv hv h;rw[(x.Rd gv hv h).2.2.1,vP u,vP (x.o.set (x.k-1) x.q),show x.k-1+1=x.k by omega,<-drop_ge_congr x.low (show x.k-1<x.k by omega)];have e1:(x.o.set (x.k-1) x.q).getD (x.k-1) 0=x.q:=by rw[Af,List.getElem?_set_self (by omega)];rfl
  have e2:(x.o.set (x.k-1) x.q).drop x.k=x.o.drop x.k:=by rw[List.drop_set_of_lt (by omega)]
  rw[e1,e2];exact dv_step x.eq (by rw[<-f4,<-f1]) (Dd _ _),by have:=x.le;omega⟩
theorem DvL.fin(x:DvL u v m n)(h:x.k=0)(gv:Lg v)(hv:v.length=n):VL x.o=VL u/VL v/\VL (x.U.take n)=VL u%VL v:=by
 have h1:=x.eq;have h2:=x.lt;have h3:=x.hU;rw[h,Do,Do,Do]at h1;rw[h,Do]at h2;have hp:0<VL v:=Nat.lt_of_le_of_lt (Aq _) h2;have e1:VL u/VL v=VL x.o:=by
  rw[h1,Nat.add_comm,Nat.add_mul_div_right _ _ hp,Ei h2,Cp]
 have e2:VL u%VL v=VL x.U:=by
  rw[h1,Nat.add_comm,Nat.add_mul_mod_self_right,Dr h2]
 refine⟨e1.symm,?_⟩;rw[e2];have h4:=L_lt gv;rw[hv]at h4;have h5:=wQ x.U n om;rcases Bz (VL (x.U.drop n))with h6|h6
 ·rw[h6,Nat.mul_zero,Ck]at h5;exact h5.symm
 ·have:4294967296^n*1<=4294967296^n*VL (x.U.drop n):=Cv _ h6;omega
end
theorem top_lt{a b s n m L:Nat}(ha:a<4294967296^L)(hm:m+n=L+1)(hn:0<n)(hs:2^s<=2147483648)(hv:2147483648*4294967296^(n-1)<=b):VL ((limN (L+1) (a*2^s)).drop m)<b:=by
 have hP:0<2^s:=Nat.pow_pos de;have h1:a*2^s<4294967296^L*2^s:=Nat.mul_lt_mul_of_pos_right ha hP;have h2:4294967296^L*2^s<=4294967296^(L+1):=by rw[By];exact Cv _ om
 rw[<-qH1 (bC _ _),bK0 om,Dw (Nat.pow_pos de)];refine Bt h1 ?_;have h3:4294967296^L=4294967296^(n-1)*4294967296^m:=by rw[<-Eo];congr 1;omega
 rw[h3,Nat.mul_right_comm];refine Bh _ ?_;rw[Aw];exact At (Bh _ hs) hv
theorem sh_div(a b s:Nat):a*2^s/(b*2^s)=a/b:=Nat.mul_div_mul_right _ _ (Nat.pow_pos de)
theorem sh_mod(a b s:Nat):a*2^s%(b*2^s)/2^s=a%b:=by rw[Nat.mul_mod_mul_right,Nat.mul_div_cancel _ (Nat.pow_pos (by decide))]
variable{md me:Bool}
theorem FnG.mr{P:Program}{f:FuncId}{args:List D}{e:TypeId}{sz:Nat}{m m1:MR}{out:D}{own':List DOwn}(h:FnG P f args [.mrow e sz m] out own')(hr:m1.rows=m.rows):FnG P f args [.mrow e sz m1] out own':=by
 unfold FnG at h⊢;have e1:ows (vC 0 [DOwn.mrow e sz m1])=ows (vC 0 [DOwn.mrow e sz m]):=by
  show [(0,Own.mrow e sz (D.pvss m1.rows))]=[(0,Own.mrow e sz (D.pvss m.rows))];rw[hr]
 rw[e1];exact h
structure TrmW(l:List Nat)where
 k:Nat
 le:k<=l.length
 eq:VL (l.take k)=VL l
def TrmW.next{l:List Nat}(x:TrmW l)(h:0<x.k)(h0:l.getD (x.k-1) 0=0):TrmW l:=⟨x.k-1,by have:=x.le;omega,by
 have h1:=qL l (x.k-1);rw[show x.k-1+1=x.k by omega,h0,Nat.mul_zero,Ck,x.eq]at h1;exact h1.symm⟩
theorem TrmW.fin{l:List Nat}(hg:Lg l)(x:TrmW l)(h:0<x.k->l.getD (x.k-1) 0≠0):x.k=(lim (VL l)).length:=by
 have hle:=x.le;have hl:(l.take x.k).length=x.k:=by rw[As];omega
 have e:lim (VL (l.take x.k))=l.take x.k:=jO1 (hg.take _) fun hne=>by
  have hp:0<x.k:=by rw[<-hl];exact Db.2 hne
  rw[Em,<-qQ om,hl];have:=h hp;rw[Af]at this⊢;rw[Df,Ab om];exact this
 rw[x.eq]at e;rw[e,hl]
theorem tW0{k:Nat}(h:0<k):((k:Int)-1).toNat=k-1:=by omega
theorem qV1{P:Program}{E:Pn}{K:DS->Prop}{p:Prop}{r:Out}(hr:r.sat P E K)(hp:p:=by first|exact⟨hm,by rw[<-hm];omega⟩|(intro hh;simp at hh;exact⟨hm,by rw[<-hm];omega⟩)|(intro hh;simp at hh;exact ini om om)|(intro hh;simp at hh;exact⟨by omega,by omega⟩)|exact⟨by omega,by omega,by omega,by omega⟩|exact Fa):(Out.need p r).sat P E K:=⟨hp,hr⟩
theorem natTrim_G(l:List Nat)(n:Nat)(hg:Lg l)(hn:n=l.length)(h0:0<n)(hl:n<=100000000):FnG Tryz.prog 277 [.mo 0 n] [.mrow 91 1 (.map l uD 0)] (.mw 0 n 0 1 (lim (VL l)).length) [.mrow 91 1 (.map l uD 0)]:=by
 have hm:n=(MR.map l uD 0).len:=hn;refine uE zJ Tryz.func277 rfl rfl rfl rfl rfl rfl rfl ?_;intros;refine zB (zE zJ [] 100 rfl ?_);repeat(first|refine zH ?_|refine qV1 ?_)
 refine zC (zA (zB (zP ?_)));refine yC (ι:=TrmW l) [] [] 150 (fun x=>[(0,.mw 0 n 0 1 x.k)]) (fun x=>[(0,.mrow 91 1 (.map l uD 0))]) (fun x=>x.k) ⟨l.length,Ar _,by rw[Ai (Ar _)]⟩ ?_;refine⟨⟨⟨Sub.moMw h0 rfl rfl hn,yG⟩,yF,rfl,rfl⟩,fun x=>?_⟩;have hk:=x.le;refine zB ?_;refine zB (zE zJ [] 200 rfl ?_);repeat(first|refine zH ?_|refine qV1 ?_)
 refine zC (zA (zZ (fun c1=>?_) (fun c1=>?_)))
 ·
  refine zM (zA (zP ?_));refine zE zJ [] 300 rfl ?_;repeat(first|refine zH ?_|refine qV1 ?_)
  refine zC (zN ?_);have hkp:0<x.k:=by have:=c1.1;omega
  have h9:=c1.2;rw[tW0 hkp,Cp]at h9;exact zS (x.next hkp om) ⟨⟨Sub.mw rfl (by simp) (by show _=x.k-1;omega),yG⟩,yF,rfl,rfl⟩ (by show x.k-1<x.k;omega)
 ·
  refine yE (yA (yB (zY (zA ?_))));refine zB (zE zJ [] 400 rfl ?_);repeat(first|refine zH ?_|refine qV1 ?_)
  refine zC (zA (zL ?_));have e:=x.fin hg (fun hp h9=>by rw[tW0 hp,Cp,h9]at c1;exact absurd c1 (by simp;omega));exact u11 1 rfl rfl (Sub.mw rfl rfl e) ⟨SubO.mr rfl,trivial⟩
theorem gV0{l:List Nat}{n v:Nat}(hg:Lg l)(hl:l.length=n)(hv:VL l=v):l=limN n v:=by
 subst hl;subst hv;exact(uW1 hg).symm
theorem div_lt32{n:Nat}(h:n<32):n/32=0:=Ei h
theorem wI1{P:Program}{E:Pn}{K:DS->Prop}{p:Prop}{r:Out}(hr:r.sat P E K)(hp:p:=by first|rfl|(rw[x.lo];omega)|exact Fa):(Out.need p r).sat P E K:=⟨hp,hr⟩
theorem natLeft_G(a n:Nat)(ha:(lim a).length<=100000)(hn:n<32):FnG Tryz.prog 285 [usD (lim a),.v (.int .i64 n)] [] (.mw 0 ((lim a).length+1) 0 1 (lim (a*2^n)).length) [.mrow 91 1 (.map (limN ((lim a).length+1) (a*2^n)) uD 0)]:=by
 have htd:=td32 n;have hd0:=div_lt32 hn;rw[hd0]at htd;refine uE zJ Tryz.func285 rfl rfl rfl rfl rfl rfl rfl ?_;intros;refine zK 100 ?_;refine zB (zE zJ [1018] 200 rfl ?_);repeat(first|refine zH ?_|refine zW (by first|(rw[htd];exact ini om om)|(simp only[htd];exact ini om om)|exact⟨by decide,by rw[htd];exact ini om om⟩|(simp only[htd];refine⟨?_,?_⟩<;>omega)|(simp only[htd];refine⟨?_,?_,?_⟩<;>omega)|exact Fa) ?_)
 refine zC (zA ?_);refine yL [0,1] [] 210 [(5,.mo 108 0)] [(108,.mrow 91 1 (.map [] uD 0))] ?_;refine⟨⟨⟨Sub.mo (by rw[htd];rfl),yG⟩,⟨SubO.mr (by rw[htd];rfl),yF⟩,rfl,rfl⟩,?_⟩;refine zK 300 ?_;refine zB (zK 400 ?_);refine zP ?_;refine yC (ι:=Lf (lim a) n) [1,19,20] [] 450 (fun x=>[(21,.v (.int .i64 (x.k:Nat))),(6,.v (.int .u32 (x.c:Nat))),(5,.mo 108 x.o.length)]) (fun x=>[(108,.mrow 91 1 (.map x.o uD 0))]) (fun x=>(lim a).length-x.k) (Lf.start _ _) ?_;refine⟨⟨⟨u21 rfl,u21 rfl,Sub.mo (by show 0=(List.replicate (n/32) 0).length;rw[hd0];rfl),yG⟩,⟨SubO.mr (by show _=(List.replicate (n/32) 0).map uD;rw[hd0];rfl),yF⟩,rfl,rfl⟩,fun x=>?_⟩;have hk:=x.le;have hlo:=x.lo;have hc1:=x.hc;have hP:=P_le n;have ew:=lf_w x (yV a);have eo:=lf_o x;have ec:=lf_c x (yV a);refine zK 500 ?_;refine zB (zZ (fun c4=>?_) (fun c4=>?_))
 ·
  refine zM (zA (zB (zP (zK 600 ?_))));refine zB (zE zJ [] 700 rfl ?_);repeat(first|refine zH ?_|refine qW1 ?_)
  refine zC (zA ?_);refine zB (zE zJ [] 800 rfl ?_);repeat(first|refine zH ?_|refine wI1 ?_)
  refine zC (zA (yM zJ [] 900 ?_));refine zN (zA (yM zJ [] 1000 ?_));exact zS (x.next (yV a) om) ⟨⟨u21 (by show(x.k:Int)+1=((x.k+1:Nat):Int);omega),u21 (by(try simp only[Ak]);rw[ew];exact ec),Sub.mo (by show x.o.length+_=(x.o++[_]).length;simp),yG⟩,⟨SubO.mr (vY (by(try simp only[Ak]);rw[ew];exact eo)),yF⟩,rfl,rfl⟩ (by show(lim a).length-(x.k+1)<(lim a).length-x.k;omega)
 ·
  refine yE (yA (yB (zY (zA ?_))));refine zB (zE zJ [1045] 1100 rfl ?_);repeat(first|refine zH ?_|refine wI1 ?_)
  refine yO _ _ ((natTrim_G (x.o++[x.c]) _ (x.lg.snoc om) (by simp) (by simp) (by rw[x.lo];simp;omega)).mr (vY rfl)) rfl ?_;repeat(first|refine zH ?_|refine wI1 ?_)
  refine zC (zA (zL ?_));obtain⟨e1,e2,e3⟩:=x.fin om;rw[vF]at e1;rw[hd0,Cp]at e3;exact u11 108 rfl rfl (Sub.mw (by rw[<-e3];simp) rfl (by rw[e1])) ⟨SubO.mr (by show List.map uD _=List.map uD _;rw[gV0 e2 e3 e1]),trivial⟩
def bl8(x:Nat):Nat:=if x<1 then 0 else if x<2 then 1 else if x<4 then 2 else if x<8 then 3 else if x<16 then 4 else if x<32 then 5 else if x<64 then 6 else if x<128 then 7 else 8
def blN(x:Nat):Nat:=if 65536<=x then(if 256<=x/65536 then 24+bl8 (x/65536/256)else 16+bl8 (x/65536))else if 256<=x then 8+bl8 (x/256)else bl8 x
def chk8(p:ByteArray):Bool:=Nat.blt 255 p.size&&(List.range 256).all fun i=>Nat.beq (bAt p i) (bl8 i)
theorem chk8_at{p:ByteArray}{i:Nat}(h:chk8 p=true)(hi:i<256):bAt p i=bl8 i:=by
 unfold chk8 at h;rw[Aj,Bl]at h;exact Ah (h.2 i (Ct.2 hi))
theorem chk8_size{p:ByteArray}{i:Nat}(h:chk8 p=true)(hi:i<256):i<p.size:=by
 unfold chk8 at h;rw[Aj]at h;have:=Ax h.1;omega
theorem tA(x:Nat):bl8 x<=8:=by unfold bl8;(repeat' split)<;>omega
theorem vQ1(x:Nat):blN x<=32:=by
 unfold blN;have h1:=tA (x/65536/256);have h2:=tA (x/65536);have h3:=tA (x/256);have h4:=tA x;split
 ·split<;>omega
 ·split<;>omega
theorem uU0{x:Nat}(h0:0<x)(h:x<256):2^bl8 x<=2*x/\x<2^bl8 x:=by
 unfold bl8;rw[Aa om];by_cases h1:x<2
 ·rw[Ab h1];omega
 rw[Aa h1];by_cases h2:x<4
 ·rw[Ab h2];omega
 rw[Aa h2];by_cases h3:x<8
 ·rw[Ab h3];omega
 rw[Aa h3];by_cases h4:x<16
 ·rw[Ab h4];omega
 rw[Aa h4];by_cases h5:x<32
 ·rw[Ab h5];omega
 rw[Aa h5];by_cases h6:x<64
 ·rw[Ab h6];omega
 rw[Aa h6];by_cases h7:x<128
 ·rw[Ab h7];omega
 rw[Aa h7];omega
theorem blN_pow{x:Nat}(h0:0<x)(h:x<4294967296):2^blN x<=2*x/\x<2^blN x:=by
 unfold blN;by_cases h1:65536<=x
 ·rw[Ab h1];by_cases h2:256<=x/65536
  ·rw[Ab h2];have h3:=uU0 (x:=x/65536/256) om om;rw[Eo,show 2^24=16777216 by decide];generalize 2^bl8 (x/65536/256)=B at*;omega
  ·rw[Aa h2];have h3:=uU0 (x:=x/65536) om om;rw[Eo,show 2^16=65536 by decide];generalize 2^bl8 (x/65536)=B at*;omega
 ·rw[Aa h1];by_cases h2:256<=x
  ·rw[Ab h2];have h3:=uU0 (x:=x/256) om om;rw[Eo,show 2^8=256 by decide];generalize 2^bl8 (x/256)=B at*;omega
  ·rw[Aa h2];exact uU0 h0 om
theorem w8n{n:Nat}(h:n<256):IntKind.u8.wrap (n:Int)=(n:Int):=by
 simp only[IntKind.wrap,IntKind.signed,IntKind.bits,Ch,Az,if_false];omega
theorem sh16(x:Nat):Int.fdiv (x:Int) (2^min (Int.toNat 16) IntKind.u32.bits)=((x/65536:Nat):Int):=cA de
theorem sh8(x:Nat):Int.fdiv (x:Int) (2^min (Int.toNat 8) IntKind.u32.bits)=((x/256:Nat):Int):=cA de
theorem bAt8{x:Nat}{p:ByteArray}(h:x<256)(hc:chk8 p=true):bAt p (IntKind.u8.wrap (x:Int)).toNat=bl8 x:=by rw[w8n h,Ak,chk8_at hc h]
theorem pF{P:Program}{E:Pn}{K:DS->Prop}{p:Prop}{r:Out}(hr:r.sat P E K)(hp:p:=by first|exact trivial|exact⟨by(try simp only[h16,h8,h168]);rw[w8n om];omega,chk8_size (by decide+kernel) (by(try simp only[h16,h8,h168]);rw[w8n om];omega)⟩|((try simp only[h16,h8,h168]);rw[bAt8 om (by decide+kernel),InI.wrap (ini om om)];exact ini om om)|omega|exact ini om om):(Out.need p r).sat P E K:=⟨hp,hr⟩
theorem Len32_ok(x:Nat)(hx:x<4294967296):Fx 288 [.v (.int .u32 x)] (.v (.int .i64 (blN x:Nat))):=by
 have h16:=sh16 x;have h8:=sh8 x;have h168:=sh8 (x/65536);have hb1:=tA (x/65536/256);have hb2:=tA (x/65536);have hb3:=tA (x/256);have hb4:=tA x;refine yD zJ Tryz.func288 rfl rfl rfl rfl rfl rfl ?_;intros;refine zB (zE zJ [] 100 rfl ?_);repeat(first|refine zH ?_|refine pF ?_)
 refine zC (zA (zB ?_));refine zB (zE zJ [] 200 rfl ?_);repeat(first|refine zH ?_|refine pF ?_)
 refine zC (zA (zZ (fun c1=>?_) (fun c1=>?_)))
 ·
  refine zB (zE zJ [] 300 rfl ?_);repeat(first|refine zH ?_|refine pF ?_)
  refine zC (zA ?_);refine yL [] [] 310 [(0,.v (.int .u32 (x/65536:Nat)))] [] ?_;refine⟨⟨⟨u21 h16,yG⟩,yF,rfl,rfl⟩,?_⟩;refine zE zJ [] 400 rfl ?_;repeat(first|refine zH ?_|refine pF ?_)
  refine zC (zA (zB ?_));refine zB (zE zJ [] 500 rfl ?_);repeat(first|refine zH ?_|refine pF ?_)
  refine zC (zA (zZ (fun c4=>?_) (fun c4=>?_)))
  ·
   refine zB (zE zJ [] 600 rfl ?_);repeat(first|refine zH ?_|refine pF ?_)
   refine zC (zA ?_);refine zE zJ [] 700 rfl ?_;repeat(first|refine zH ?_|refine pF ?_)
   refine zC (zA ?_);refine zB (zE zJ [] 800 rfl ?_);repeat(first|refine zH ?_|refine pF ?_)
   refine zC (zA (zL ?_));exact u4 rfl (u10 (by(try simp only[h16,h8,h168]at*);rw[bAt8 om (by decide+kernel),InI.wrap (ini om om)];unfold blN;(repeat(first|rw[Ab (by omega)]|rw[Aa (by omega)]));omega))
  ·
   refine zM (zA ?_);refine zB (zE zJ [] 800 rfl ?_);repeat(first|refine zH ?_|refine pF ?_)
   refine zC (zA (zL ?_));exact u4 rfl (u10 (by(try simp only[h16,h8,h168]at*);rw[bAt8 om (by decide+kernel),InI.wrap (ini om om)];unfold blN;(repeat(first|rw[Ab (by omega)]|rw[Aa (by omega)]));omega))
 ·
  refine zM (zA (zB ?_));refine zB (zE zJ [] 500 rfl ?_);repeat(first|refine zH ?_|refine pF ?_)
  refine zC (zA (zZ (fun c4=>?_) (fun c4=>?_)))
  ·
   refine zB (zE zJ [] 600 rfl ?_);repeat(first|refine zH ?_|refine pF ?_)
   refine zC (zA ?_);refine zE zJ [] 700 rfl ?_;repeat(first|refine zH ?_|refine pF ?_)
   refine zC (zA ?_);refine zB (zE zJ [] 800 rfl ?_);repeat(first|refine zH ?_|refine pF ?_)
   refine zC (zA (zL ?_));exact u4 rfl (u10 (by(try simp only[h16,h8,h168]at*);rw[bAt8 om (by decide+kernel),InI.wrap (ini om om)];unfold blN;(repeat(first|rw[Ab (by omega)]|rw[Aa (by omega)]));omega))
  ·
   refine zM (zA ?_);refine zB (zE zJ [] 800 rfl ?_);repeat(first|refine zH ?_|refine pF ?_)
   refine zC (zA (zL ?_));exact u4 rfl (u10 (by(try simp only[h16,h8,h168]at*);rw[bAt8 om (by decide+kernel),InI.wrap (ini om om)];unfold blN;(repeat(first|rw[Ab (by omega)]|rw[Aa (by omega)]));omega))
theorem Lz32_ok(x:Nat)(hx:x<4294967296):Fx 284 [.v (.int .u32 x)] (.v (.int .i64 (32-blN x:Nat))):=by
 have hb:=vQ1 x;refine yD zJ Tryz.func284 rfl rfl rfl rfl rfl rfl ?_;intros;refine zK 100 ?_;refine zB (zE zJ [] 200 rfl ?_);refine zF ?_;refine zQ _ (Len32_ok x hx) rfl ?_;refine zf (zA (zL ?_));exact u4 rfl (u10 om)
theorem add32_ok{x y b:Int}(hx:I32 x)(hy:I32 y)(hb:0<=b/\b<=1):IntKind.u64.wrap (IntKind.u64.wrap (IntKind.u64.wrap x+IntKind.u64.wrap y)+IntKind.u64.wrap b)=((b.toNat+x.toNat+y.toNat:Nat):Int):=by
 obtain⟨h1,h2⟩:=hx;obtain⟨h3,h4⟩:=hy;simp only[IntKind.wrap,IntKind.signed,IntKind.bits,Ch,Az,if_false];omega
theorem Add32_ok(x y b:Int)(hx:I32 x)(hy:I32 y)(hb:0<=b/\b<=1):Fx 289 [.v (.int .u32 x),.v (.int .u32 y),.v (.int .u32 b)] (.tup [.v (.int .u32 ((b.toNat+x.toNat+y.toNat)%4294967296:Nat)),.v (.int .u32 ((b.toNat+x.toNat+y.toNat)/4294967296:Nat))]):=by
 refine yD zJ Tryz.func289 rfl rfl rfl rfl rfl rfl ?_;intros;refine zK 100 ?_;refine zK 200 ?_;refine zK 300 ?_;refine zK 400 ?_;refine zL ?_;have e:=add32_ok hx hy hb;have h2:=hx.2;have h3:=hy.2;exact u4 rfl (u19 ⟨u10 (lo32 e),u10 (by rw[hi32 e,w32n om]),trivial⟩)
end Go.Proofs.YtammfbdgjnkolaaGreatDoor
