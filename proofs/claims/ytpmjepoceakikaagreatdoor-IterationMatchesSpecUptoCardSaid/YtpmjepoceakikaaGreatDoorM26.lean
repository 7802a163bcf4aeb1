/-Part 26 of the proof. -/
import Derived.Test.YtpmjepoceakikaaGreatDoorM24
import Derived.Test.YtpmjepoceakikaaGreatDoorM25
namespace Go.Proofs.YtpmjepoceakikaaGreatDoor
open Go.RowKit
variable{md me:Bool}
theorem wA1(b1:Bool)(n1:Nat)(b2:Bool)(n2:Nat):ZI (plB b1 n1 b2 n2).1 (plB b1 n1 b2 n2).2=ZI b1 n1+ZI b2 n2:=by
 unfold plB;by_cases h:b1=b2
 ·subst h;rw[Ab rfl]
  cases b1<;>unfold ZI<;>simp<;>omega
 ·rw[Aa h];by_cases h2:n2<=n1
  ·rw[Ab h2]
   cases b1<;>cases b2<;>unfold ZI<;>simp at* <;>omega
  ·rw[Aa h2]
   cases b1<;>cases b2<;>unfold ZI<;>simp at* <;>omega
theorem plB_le(b1:Bool)(n1:Nat)(b2:Bool)(n2:Nat):(plB b1 n1 b2 n2).2<=n1+n2:=by
 unfold plB;split
 ·exact Aq _
 ·split
  ·show n1-n2<=n1+n2;omega
  ·show n2-n1<=n1+n2;omega
theorem dig_addL{x y k:Nat}(hx:(dig x).length<=k)(hy:(dig y).length<=k):(dig (x+y)).length<=k+1:=by
 have h1:=Bu (bW x) (Bg de hx);have h2:=Bu (bW y) (Bg de hy);refine qH ?_;rw[Bx];generalize 65536^k=B at*;omega
theorem uT0{x y k m:Nat}(hx:(dig x).length<=k)(hy:(dig y).length<=m):(dig (x*y)).length<=k+m:=by
 have h1:=Bu (bW x) (Bg de hx);have h2:=Bu (bW y) (Bg de hy);refine qH ?_;rw[El];exact Nat.mul_lt_mul'' h1 h2
theorem uS0{b1 b2:Bool}{x y k:Nat}(hx:(dig x).length<=k)(hy:(dig y).length<=k):(dig (plB b1 x b2 y).2).length<=k+1:=Au (yW (plB_le _ _ _ _)) (dig_addL hx hy)
theorem bI{l:List Nat}(hg:Lg l)(h:l.length<=40):(dig (VL l)).length<=80:=by
 refine qH ?_;have h1:=Bu (L_lt hg) (Bg de h);rw[show(65536:Nat)^80=(65536^2)^40 from Nat.pow_mul 65536 2 40];exact h1
theorem dm_Td{s t:Bool}{x y:Nat}(h:(s !=t)=true/\0<((dig (x%y)).length:Int)):dmQ s t x y=x/y+1/\dmR s t x y=y-x%y:=by
 have h1:s≠t:=by simpa using h.1
 have h2:0<x%y:=by have:=bH (n:=x%y);rw[Bh h.2]at this;exact Ag this.symm
 exact⟨by rw[dmQ,Ab ⟨h1,h2⟩],by rw[dmR,Ab ⟨h1,h2⟩]⟩
theorem dm_Fd{s t:Bool}{x y:Nat}(h:((s !=t)&&decide (0<((dig (x%y)).length:Int)))=false):dmQ s t x y=x/y/\dmR s t x y=x%y:=by
 have h1:¬(s≠t/\0<x%y):=by
  rintro⟨h1,h2⟩;have h3:(s !=t)=true:=by simpa using h1
  rw[h3,Ds,bH,Ay]at h;exact h h2
 exact⟨by rw[dmQ,Aa h1],by rw[dmR,Aa h1]⟩
theorem wQ(b1 b2:Bool)(n1 n2:Nat)(h1:(dig n1).length<=1000000)(h2:(dig n2).length<=1000000):Fx 103 [rD b1 n1,rD b2 n2] (rD ((b1 !=b2)&&decide (0<n1*n2)) (n1*n2)):=by
 refine yF zJ Tryz.func103 rfl rfl rfl rfl rfl rfl ?_;intros;refine zK 100 ?_;refine zB (zE zJ [] 200 rfl ?_);refine zF ?_;refine zQ _ (Times3_ok _ _ ao ao) rfl ?_;refine zF ?_;refine zC (zA (zK 300 ?_));refine zM ?_;exact u4 rfl (u20 ⟨u7 (by rw[bH]),u6 _,trivial⟩)
theorem IntFloor_ok(b1 b2:Bool)(n1 n2:Nat)(h1:(dig n1).length<=1000000)(h2:(dig n2).length<=1000000)(h0:0<n2):Fx 148 [rD b1 n1,rD b2 n2] (.tup [rD (b1 !=b2) (dmQ b1 b2 n1 n2),rD b2 (dmR b1 b2 n1 n2)]):=by
 have hq:(dig (n1/n2)).length<=1000000:=Au (yW (Ep _ _)) h1;refine yF zJ Tryz.func148 rfl rfl rfl rfl rfl rfl ?_;intros;refine zK 100 ?_;refine zB (zE zJ [] 200 rfl ?_);refine zF ?_;refine zQ _ (Divide3_ok n1 n2 h1 h2 h0) rfl ?_;refine zF ?_;refine zC (zA (zB (zK 300 ?_)));refine zY (fun c2=>?_) (fun c2=>?_)
 ·
  refine zX zJ [] [[],[],[0,1],[],[3],[],(rgN 6),(rgN 7),(rgN 8)] 400 yT kr rfl ?_;refine zF ?_;refine zQ _ (xW0 1 om om) rfl ?_;refine zF ?_;refine zQ _ (vD0 _ 1 om (by rw[xJ0];decide)) rfl ?_;refine zF ?_;refine zQ _ (xO _ _ (Dl (Cy _ h0)) om) rfl ?_;refine zf (zA ?_);refine zB (zX zJ [] mK19 500 yT kr rfl ?_);refine zf (zA (zM ?_));obtain⟨hqe,hre⟩:=dm_Td c2;exact u4 rfl (u9 (by rw[hqe,hre];rfl))
 ·
  refine zL (zA ?_);refine zB (zX zJ [] mK19 500 yT kr rfl ?_);refine zf (zA (zM ?_));obtain⟨hqe,hre⟩:=dm_Fd c2;exact u4 rfl (u9 (by rw[hqe,hre];rfl))
structure RgN where
 sa:Bool
 na:Nat
 sb:Bool
 nb:Nat
 sc:Bool
 nc:Nat
def RgN.g(x:RgN):Bool×Nat:=plB x.sb x.nb (!x.sa&&decide (0<x.na)) x.na
def RgN.q(x:RgN):Bool×Nat:=(x.g.1 !=x.sc,dmQ x.g.1 x.sc x.g.2 x.nc)
def RgN.r(x:RgN):Nat:=dmR x.g.1 x.sc x.g.2 x.nc
def RgN.q2(x:RgN):Bool×Nat:=if 0<x.r then plB x.q.1 x.q.2 false 1 else x.q
def RgN.cnt(x:RgN):Bool×Nat:=if x.q2.1=true then(false,0)else x.q2
def RgN.p(x:RgN):Bool×Nat:=plB x.cnt.1 x.cnt.2 true 1
def RgN.t(x:RgN):Bool×Nat:=((x.sc !=x.p.1)&&decide (0<x.nc*x.p.2),x.nc*x.p.2)
def RgN.last(x:RgN):Bool×Nat:=plB x.sa x.na x.t.1 x.t.2
def RgN.D(x:RgN):D:= .agg [.v (.bool x.sa),qN x.na,.v (.bool x.sc),qN x.nc,.v (.bool x.cnt.1),qN x.cnt.2,.v (.bool x.last.1),qN x.last.2]
def rgL(sa sb sc:Bool)(la lb lc:List Nat):List D:=[.v (.bool sa),usD la,.v (.bool sb),usD lb,.v (.bool sc),usD lc]
theorem RgN.sizes(x:RgN){k:Nat}(ha:(dig x.na).length<=k)(hb:(dig x.nb).length<=k)(hc:(dig x.nc).length<=k)(h0:0<x.nc)(h1:1<=k):(dig x.g.2).length<=k+1/\(dig x.q.2).length<=k+1/\(dig x.r).length<=k/\(dig x.q2.2).length<=k+2/\(dig x.cnt.2).length<=k+2/\(dig x.p.2).length<=k+3/\(dig x.t.2).length<=k+(k+3):=by
 have g:=uS0 (b1:=x.sb) (b2:=(!x.sa&&decide (0<x.na))) hb ha;have q:(dig x.q.2).length<=k+1:=Au (yW (dH0 h0)) g;have r:(dig x.r).length<=k:=Au (yW (yC1 h0)) hc;have q2:(dig x.q2.2).length<=k+2:=by
  unfold RgN.q2;split
  ·exact uS0 q (by rw[xJ0];omega)
  ·omega
 have c:(dig x.cnt.2).length<=k+2:=by
  unfold RgN.cnt;split
  ·rw[jW];exact Ap _
  ·exact q2
 have p:(dig x.p.2).length<=k+3:=uS0 c (by rw[xJ0];omega);exact⟨g,q,r,q2,c,p,uT0 hc p⟩
theorem uR0(n:Nat):(0<((dig n).length:Int))↔0<n:=by
 have:=bH (n:=n);rw[Bool.eq_iff_iff,Ao,Ao]at this;exact this
theorem RgN.q2_T{x:RgN}(h:0<x.r):x.q2=plB x.q.1 x.q.2 false 1:=Ab h
theorem RgN.q2_F{x:RgN}(h:¬0<x.r):x.q2=x.q:=Aa h
theorem RgN.cnt_T{x:RgN}(h:x.q2.1=true):x.cnt=(false,0):=Ab h
theorem RgN.cnt_F{x:RgN}(h:¬x.q2.1=true):x.cnt=x.q2:=Aa h
theorem RangeOf_ok(sa sb sc:Bool)(la lb lc:List Nat)(hla:la.length<=40)(hlb:lb.length<=40)(hlc:lc.length<=40)(ga:Lg la)(gb:Lg lb)(gc:Lg lc)(h0:0<VL lc):Fx 101 [.agg (rgL sa sb sc la lb lc)] (RgN.D (RgN.mk sa (VL la) sb (VL lb) sc (VL lc))):=by
 have da:=bI ga hla;have db:=bI gb hlb;have dc:=bI gc hlc;obtain⟨z1,z2,z3,z4,z5,z6,z7⟩:=RgN.sizes (RgN.mk sa (VL la) sb (VL lb) sc (VL lc)) (k:=80) da db dc h0 de;have hrp:=uR0 (RgN.r (RgN.mk sa (VL la) sb (VL lb) sc (VL lc)));refine yF zJ Tryz.func101 rfl rfl rfl rfl rfl rfl ?_;intros;refine zK 100 ?_;refine zB (zX zJ [] [[],[0],[0,1],[],[3],(rgN 5),(rgN 6),[],(rgN 8)] 200 yT kr rfl ?_);refine zF ?_;refine zQ _ (xP sa la ga om) rfl ?_;refine zF ?_;refine zQ _ (xP sc lc gc om) rfl ?_;refine zf (zA ?_);refine zB (zX zJ [] [[],[0],[0,1],[],[3],(rgN 5),(rgN 6),[],(rgN 8)] 300 yT kr rfl ?_);refine zF ?_;refine zQ _ (xP sb lb gb om) rfl ?_;refine zF ?_;refine zQ _ (IntMinus_ok sa (VL la)) rfl ?_;refine zF ?_;refine zQ _ (jP sb _ (VL lb) (VL la) om om) rfl ?_;refine zf (zA ?_);refine zB (zE zJ [] 400 rfl ?_);refine zF ?_;refine zQ _ (IntFloor_ok _ sc _ (VL lc) (Au z1 de) om h0) rfl ?_;refine zF ?_;refine zC (zA (zB (zK 500 ?_)));refine zY (fun c4=>?_) (fun c4=>?_)
 ·
  refine zX zJ [] [[],[],[0,1],[0,1,2]] 600 yT kr rfl ?_;refine zF ?_;refine zQ _ (uV 1 de de) rfl ?_;refine zF ?_;refine zQ _ (jP _ false _ 1 (Au z2 de) (by rw[xJ0];decide)) rfl ?_;refine zf (zA (zB ?_));refine yK [2,3,5] [1,107,307] 610 [] [(307,.box 82 [.v (.bool (RgN.q2 (RgN.mk sa (VL la) sb (VL lb) sc (VL lc))).1),qN (RgN.q2 (RgN.mk sa (VL la) sb (VL lb) sc (VL lc))).2])] ?_;refine⟨⟨yG,⟨⟨rfl,by first|exact Sub.of_eq (by rw[RgN.q2_T (hrp.1 c4)];rfl)|exact Sub.of_eq (by rw[RgN.q2_F (fun h=>absurd (hrp.2 h) (by first|exact c4|exact Int.not_lt.2 c4))];rfl),rfl,by first|exact Sub.of_eq (by rw[RgN.q2_T (hrp.1 c4)];rfl)|exact Sub.of_eq (by rw[RgN.q2_F (fun h=>absurd (hrp.2 h) (by first|exact c4|exact Int.not_lt.2 c4))];rfl),rfl,trivial⟩,yE⟩,rfl,rfl⟩,?_⟩;refine zK 700 ?_;refine zY (fun c6=>?_) (fun c6=>?_)
  ·
   refine yM zJ [] 800 ?_;refine zA ?_;refine yK [2,3] [1,107] 810 [] [(107,.box 89 [.v (.bool sa),qN (VL la),.v (.bool sc),qN (VL lc),.v (.bool (RgN.cnt (RgN.mk sa (VL la) sb (VL lb) sc (VL lc))).1),qN (RgN.cnt (RgN.mk sa (VL la) sb (VL lb) sc (VL lc))).2,.v (.bool false),.v (.slice none 0 0)])] ?_;refine⟨⟨yG,⟨⟨rfl,u0 _,rfl,u0 _,rfl,u0 _,rfl,u0 _,rfl,by first|(rw[RgN.cnt_T (by simpa using c6)];exact Sub.nil0)|(rw[RgN.cnt_T (by simpa using c6)];exact u0 _)|(rw[RgN.cnt_F (by simpa using c6)];exact u0 _),rfl,by first|(rw[RgN.cnt_T (by simpa using c6)];exact Sub.nil0)|(rw[RgN.cnt_T (by simpa using c6)];exact u0 _)|(rw[RgN.cnt_F (by simpa using c6)];exact u0 _),rfl,u0 _,rfl,u0 _,rfl,trivial⟩,yE⟩,rfl,rfl⟩,?_⟩;refine zB (zX zJ [] mK4 900 yT kr rfl ?_);refine zF ?_;refine zQ _ (uV (-1) de de) rfl ?_;refine zF ?_;refine zQ _ (jP _ true _ 1 (Au z5 de) (by rw[xJ0];decide)) rfl ?_;refine zF ?_;refine zQ _ (wQ sc _ (VL lc) _ om (Au z6 de)) rfl ?_;refine zF ?_;refine zQ _ (jP sa _ (VL la) _ om (Au z7 de)) rfl ?_;refine zF ?_;refine zC (zA (zK 1000 ?_));refine zM ?_;exact u4 rfl (u9 rfl)
  ·
   refine zL (zA ?_);refine yK [2,3] [1,107] 710 [] [(107,.box 89 [.v (.bool sa),qN (VL la),.v (.bool sc),qN (VL lc),.v (.bool (RgN.cnt (RgN.mk sa (VL la) sb (VL lb) sc (VL lc))).1),qN (RgN.cnt (RgN.mk sa (VL la) sb (VL lb) sc (VL lc))).2,.v (.bool false),.v (.slice none 0 0)])] ?_;refine⟨⟨yG,⟨⟨rfl,u0 _,rfl,u0 _,rfl,u0 _,rfl,u0 _,rfl,by first|(rw[RgN.cnt_T (by simpa using c6)];exact Sub.nil0)|(rw[RgN.cnt_T (by simpa using c6)];exact u0 _)|(rw[RgN.cnt_F (by simpa using c6)];exact u0 _),rfl,by first|(rw[RgN.cnt_T (by simpa using c6)];exact Sub.nil0)|(rw[RgN.cnt_T (by simpa using c6)];exact u0 _)|(rw[RgN.cnt_F (by simpa using c6)];exact u0 _),rfl,u0 _,rfl,u0 _,rfl,trivial⟩,yE⟩,rfl,rfl⟩,?_⟩;refine zB (zX zJ [] mK4 900 yT kr rfl ?_);refine zF ?_;refine zQ _ (uV (-1) de de) rfl ?_;refine zF ?_;refine zQ _ (jP _ true _ 1 (Au z5 de) (by rw[xJ0];decide)) rfl ?_;refine zF ?_;refine zQ _ (wQ sc _ (VL lc) _ om (Au z6 de)) rfl ?_;refine zF ?_;refine zQ _ (jP sa _ (VL la) _ om (Au z7 de)) rfl ?_;refine zF ?_;refine zC (zA (zK 1000 ?_));refine zM ?_;exact u4 rfl (u9 rfl)
 ·
  refine zL (zA (zB ?_));refine yK [2,3,5] [1,107,307] 510 [] [(307,.box 82 [.v (.bool (RgN.q2 (RgN.mk sa (VL la) sb (VL lb) sc (VL lc))).1),qN (RgN.q2 (RgN.mk sa (VL la) sb (VL lb) sc (VL lc))).2])] ?_;refine⟨⟨yG,⟨⟨rfl,by first|exact Sub.of_eq (by rw[RgN.q2_T (hrp.1 c4)];rfl)|exact Sub.of_eq (by rw[RgN.q2_F (fun h=>absurd (hrp.2 h) (by first|exact c4|exact Int.not_lt.2 c4))];rfl),rfl,by first|exact Sub.of_eq (by rw[RgN.q2_T (hrp.1 c4)];rfl)|exact Sub.of_eq (by rw[RgN.q2_F (fun h=>absurd (hrp.2 h) (by first|exact c4|exact Int.not_lt.2 c4))];rfl),rfl,trivial⟩,yE⟩,rfl,rfl⟩,?_⟩;refine zK 700 ?_;refine zY (fun c6=>?_) (fun c6=>?_)
  ·
   refine yM zJ [] 800 ?_;refine zA ?_;refine yK [2,3] [1,107] 810 [] [(107,.box 89 [.v (.bool sa),qN (VL la),.v (.bool sc),qN (VL lc),.v (.bool (RgN.cnt (RgN.mk sa (VL la) sb (VL lb) sc (VL lc))).1),qN (RgN.cnt (RgN.mk sa (VL la) sb (VL lb) sc (VL lc))).2,.v (.bool false),.v (.slice none 0 0)])] ?_;refine⟨⟨yG,⟨⟨rfl,u0 _,rfl,u0 _,rfl,u0 _,rfl,u0 _,rfl,by first|(rw[RgN.cnt_T (by simpa using c6)];exact Sub.nil0)|(rw[RgN.cnt_T (by simpa using c6)];exact u0 _)|(rw[RgN.cnt_F (by simpa using c6)];exact u0 _),rfl,by first|(rw[RgN.cnt_T (by simpa using c6)];exact Sub.nil0)|(rw[RgN.cnt_T (by simpa using c6)];exact u0 _)|(rw[RgN.cnt_F (by simpa using c6)];exact u0 _),rfl,u0 _,rfl,u0 _,rfl,trivial⟩,yE⟩,rfl,rfl⟩,?_⟩;refine zB (zX zJ [] mK4 900 yT kr rfl ?_);refine zF ?_;refine zQ _ (uV (-1) de de) rfl ?_;refine zF ?_;refine zQ _ (jP _ true _ 1 (Au z5 de) (by rw[xJ0];decide)) rfl ?_;refine zF ?_;refine zQ _ (wQ sc _ (VL lc) _ om (Au z6 de)) rfl ?_;refine zF ?_;refine zQ _ (jP sa _ (VL la) _ om (Au z7 de)) rfl ?_;refine zF ?_;refine zC (zA (zK 1000 ?_));refine zM ?_;exact u4 rfl (u9 rfl)
  ·
   refine zL (zA ?_);refine yK [2,3] [1,107] 710 [] [(107,.box 89 [.v (.bool sa),qN (VL la),.v (.bool sc),qN (VL lc),.v (.bool (RgN.cnt (RgN.mk sa (VL la) sb (VL lb) sc (VL lc))).1),qN (RgN.cnt (RgN.mk sa (VL la) sb (VL lb) sc (VL lc))).2,.v (.bool false),.v (.slice none 0 0)])] ?_;refine⟨⟨yG,⟨⟨rfl,u0 _,rfl,u0 _,rfl,u0 _,rfl,u0 _,rfl,by first|(rw[RgN.cnt_T (by simpa using c6)];exact Sub.nil0)|(rw[RgN.cnt_T (by simpa using c6)];exact u0 _)|(rw[RgN.cnt_F (by simpa using c6)];exact u0 _),rfl,by first|(rw[RgN.cnt_T (by simpa using c6)];exact Sub.nil0)|(rw[RgN.cnt_T (by simpa using c6)];exact u0 _)|(rw[RgN.cnt_F (by simpa using c6)];exact u0 _),rfl,u0 _,rfl,u0 _,rfl,trivial⟩,yE⟩,rfl,rfl⟩,?_⟩;refine zB (zX zJ [] mK4 900 yT kr rfl ?_);refine zF ?_;refine zQ _ (uV (-1) de de) rfl ?_;refine zF ?_;refine zQ _ (jP _ true _ 1 (Au z5 de) (by rw[xJ0];decide)) rfl ?_;refine zF ?_;refine zQ _ (wQ sc _ (VL lc) _ om (Au z6 de)) rfl ?_;refine zF ?_;refine zQ _ (jP sa _ (VL la) _ om (Au z7 de)) rfl ?_;refine zF ?_;refine zC (zA (zK 1000 ?_));refine zM ?_;exact u4 rfl (u9 rfl)
theorem dP0{C q r K:Int}(hC:0<C)(h0:0<=r)(h1:r<C)(hK:K=if 0<r then q+1 else q):C*(K-1)<r+C*q/\r+C*q<=C*K:=by
 subst hK;split
 ·rw[Int.add_sub_cancel,Int.mul_add,Int.mul_one];omega
 ·rw[Int.mul_sub,Int.mul_one];omega
theorem ceil_div{C G K:Int}(hC:0<C)(h1:C*(K-1)<G)(h2:G<=C*K):Int.fdiv (G+(C-1)) C=K:=by
 rw[Int.mul_sub,Int.mul_one]at h1;exact bU (r:=G+(C-1)-C*K) om (Or.inl ⟨hC,by omega,by omega⟩)
theorem ceil_le{C G K:Int}(hC:0<C)(h1:C*(K-1)<G)(h:G<=0):K<=0:=by
 by_cases h2:0<K
 ·have:=Int.mul_nonneg (Int.le_of_lt hC) (show 0<=K-1 by omega);omega
 ·omega
theorem ceil_gt{C G K:Int}(hC:0<C)(h2:G<=C*K)(h:0<G):0<K:=by
 by_cases h3:0<K
 ·exact h3
 ·have:=Eu (show K<=0 by omega) (Int.le_of_lt hC);omega
theorem yG1{b:Bool×Nat}{G C:Int}{K:Int}(hC:0<C)(h1:C*(K-1)<G)(h2:G<=C*K)(hb:ZI b.1 b.2=K):
  (if b.1=true then((false,0):Bool×Nat)else b)=(false,(if 0<G then Int.fdiv (G+(C-1)) C else 0).natAbs)/\0<=(if 0<G then Int.fdiv (G+(C-1)) C else 0):=by
 rw[ceil_div hC h1 h2];obtain⟨s,n⟩:=b
 cases s with
 |true=>
  rw[Ab rfl];have hb: -((n:Nat):Int)=K:=hb;by_cases h:0<G
  ·have:=ceil_gt hC h2 h;omega
  ·rw[Aa h];exact⟨rfl,by omega⟩
 |false=>
  rw[Aa Bool.false_ne_true];have hb:((n:Nat):Int)=K:=hb;by_cases h:0<G
  ·rw[Ab h];exact⟨by rw[<-hb];rfl,by omega⟩
  ·rw[Aa h];have:=ceil_le hC h1 om;exact⟨by rw[show n=0 by omega];rfl,by omega⟩
theorem cnt_rlen(x:RgN)(h0:0<x.nc):x.cnt=(false,(rlen (ZI x.sa x.na) (ZI x.sb x.nb) (ZI x.sc x.nc)).natAbs)/\0<=rlen (ZI x.sa x.na) (ZI x.sb x.nb) (ZI x.sc x.nc):=by
 obtain⟨d1,d2⟩:=dm_Z (s:=x.g.1) (t:=x.sc) (x:=x.g.2) h0;have hg:ZI x.g.1 x.g.2=ZI x.sb x.nb-ZI x.sa x.na:=by
  unfold RgN.g;rw[wA1,ZI_neg];omega
 rw[hg]at d1 d2;have hfm:=Int.mul_fdiv_add_fmod (ZI x.sb x.nb-ZI x.sa x.na) (ZI x.sc x.nc);have hq:ZI x.q2.1 x.q2.2=if 0<x.r then Int.fdiv (ZI x.sb x.nb-ZI x.sa x.na) (ZI x.sc x.nc)+1 else Int.fdiv (ZI x.sb x.nb-ZI x.sa x.na) (ZI x.sc x.nc):=by
  unfold RgN.q2;split
  ·rw[wA1];show ZI (x.g.1 !=x.sc) _+1=_;rw[<-d1];rfl
  ·exact d1
 have hr:x.r<x.nc:=by
  show dmR x.g.1 x.sc x.g.2 x.nc<x.nc;have hm:=Cy x.g.2 h0;unfold dmR;split<;>omega
 have hd2:ZI x.sc x.r=Int.fmod (ZI x.sb x.nb-ZI x.sa x.na) (ZI x.sc x.nc):=d2;rw[<-hd2]at hfm;generalize Int.fdiv (ZI x.sb x.nb-ZI x.sa x.na) (ZI x.sc x.nc)=q at*;unfold RgN.cnt
 cases hs:x.sc with
 |false=>
  have e1:ZI false x.nc=((x.nc:Nat):Int):=rfl;have e2:ZI false x.r=((x.r:Nat):Int):=rfl;rw[hs,e1,e2]at hfm;have hl:rlen (ZI x.sa x.na) (ZI x.sb x.nb) (ZI false x.nc)=if ZI x.sa x.na<ZI x.sb x.nb then Int.fdiv (ZI x.sb x.nb-ZI x.sa x.na+((x.nc:Int)-1)) x.nc else 0:=by
   unfold rlen qY;rw[e1,Aa (show ¬((x.nc:Nat):Int)<0 by omega),Aa (show ¬((x.nc:Nat):Int)<0 by omega),Int.mul_one]
  rw[hl];obtain⟨k1,k2⟩:=dP0 (C:=x.nc) (q:=q) (r:=x.r) (K:=ZI x.q2.1 x.q2.2) om om om (by rw[hq];split<;>split<;>omega)
  have h:=yG1 (b:=x.q2) (C:=x.nc) (G:=ZI x.sb x.nb-ZI x.sa x.na) om om om rfl;have e3:(0<ZI x.sb x.nb-ZI x.sa x.na)=(ZI x.sa x.na<ZI x.sb x.nb):=propext om;simp only[e3]at h;exact h
 |true=>
  have e1:ZI true x.nc= -((x.nc:Nat):Int):=rfl;have e2:ZI true x.r= -((x.r:Nat):Int):=rfl;rw[hs,e1,e2,Int.neg_mul]at hfm;have hl:rlen (ZI x.sa x.na) (ZI x.sb x.nb) (ZI true x.nc)=if ZI x.sb x.nb<ZI x.sa x.na then Int.fdiv (ZI x.sa x.na-ZI x.sb x.nb+((x.nc:Int)-1)) x.nc else 0:=by
   unfold rlen qY;rw[e1,Ab (show-((x.nc:Nat):Int)<0 by omega),Ab (show-((x.nc:Nat):Int)<0 by omega),show-((x.nc:Nat):Int)* -1=((x.nc:Nat):Int) by omega]
  rw[hl];obtain⟨k1,k2⟩:=dP0 (C:=x.nc) (q:=q) (r:=x.r) (K:=ZI x.q2.1 x.q2.2) om om om (by rw[hq];split<;>split<;>omega)
  have h:=yG1 (b:=x.q2) (C:=x.nc) (G:=ZI x.sa x.na-ZI x.sb x.nb) om om om rfl;have e3:(0<ZI x.sa x.na-ZI x.sb x.nb)=(ZI x.sb x.nb<ZI x.sa x.na):=propext om;simp only[e3]at h;exact h
variable{md me:Bool}
structure RgO(o:Ob):Prop where
 n:2<o.items.length
 il:o.items.length<=2000000
 le:∀j<3,(o.items.getD j vl0).nl.length<=40
 lg:∀j<3,Lg (o.items.getD j vl0).nl
 ok:∀j<3,uK (o.items.getD j vl0).nn (o.items.getD j vl0).nl=true
 c0:0<VL (o.items.getD 2 vl0).nl
def rgO(o:Ob):RgN:=⟨(o.items.getD 0 vl0).nn,VL (o.items.getD 0 vl0).nl,(o.items.getD 1 vl0).nn,VL (o.items.getD 1 vl0).nl,(o.items.getD 2 vl0).nn,VL (o.items.getD 2 vl0).nl⟩
def rlO(o:Ob):Int:=rlen (ZI (rgO o).sa (rgO o).na) (ZI (rgO o).sb (rgO o).nb) (ZI (rgO o).sc (rgO o).nc)
theorem rgL_D{sa sb sc:Bool}{la lb lc:List Nat}(ga:Lg la)(gb:Lg lb)(gc:Lg lc)(ha:uK sa la=true)(hb:uK sb lb=true)(hc:uK sc lc=true):rgL sa sb sc la lb lc=rgD (ZI sa (VL la)) (ZI sb (VL lb)) (ZI sc (VL lc)):=by
 obtain⟨a1,a2,_⟩:=bS ga ha;obtain⟨b1,b2,_⟩:=bS gb hb;obtain⟨c1,c2,_⟩:=bS gc hc;unfold rgL rgD;rw[tC,tC,tC,<-a1,<-b1,<-c1,<-a2,<-b2,<-c2]
theorem RgO.dat{o:Ob}(h:RgO o):rgL (o.items.getD 0 vl0).nn (o.items.getD 1 vl0).nn (o.items.getD 2 vl0).nn (o.items.getD 0 vl0).nl (o.items.getD 1 vl0).nl (o.items.getD 2 vl0).nl=rgD (ZI (rgO o).sa (rgO o).na) (ZI (rgO o).sb (rgO o).nb) (ZI (rgO o).sc (rgO o).nc):=
 rgL_D (h.lg 0 de) (h.lg 1 de) (h.lg 2 de) (h.ok 0 de) (h.ok 1 de) (h.ok 2 de)
theorem RgO.siz{o:Ob}(h:RgO o):(lim (ZI (rgO o).sa (rgO o).na).natAbs).length<=40/\(lim (ZI (rgO o).sb (rgO o).nb).natAbs).length<=40/\(lim (ZI (rgO o).sc (rgO o).nc).natAbs).length<=40/\ZI (rgO o).sc (rgO o).nc≠0:=by
 rw[tC,tC,tC];refine⟨?_,?_,?_,fun e=>?_⟩
 ·show(lim (VL (o.items.getD 0 vl0).nl)).length<=40;rw[<-(bS (h.lg 0 de) (h.ok 0 de)).1];exact h.le 0 de
 ·show(lim (VL (o.items.getD 1 vl0).nl)).length<=40;rw[<-(bS (h.lg 1 de) (h.ok 1 de)).1];exact h.le 1 de
 ·show(lim (VL (o.items.getD 2 vl0).nl)).length<=40;rw[<-(bS (h.lg 2 de) (h.ok 2 de)).1];exact h.le 2 de
 ·have h1:=tC (rgO o).sc (rgO o).nc;rw[e]at h1;have h2:=h.c0;have h3:(rgO o).nc=VL (o.items.getD 2 vl0).nl:=rfl;rw[<-h3,<-h1]at h2;exact absurd h2 de
theorem vR1{P:Program}{E:Pn}{K:DS->Prop}{p:Prop}{r:Out}(hr:r.sat P E K)(hp:p:=by first|exact trivial|(refine⟨by decide,?_⟩;have:=ho.n;show _<o.items.length;omega)|(refine⟨by decide,?_⟩;have:=ho.n;simp only[Ar];show _<o.items.length;omega)):(Out.need p r).sat P E K:=⟨hp,hr⟩
theorem tS0(o:Ob)(ho:RgO o):Fx 61 [.agg (obD o)] (RgN.D (rgO o)):=by
 refine yF zJ Tryz.func61 rfl rfl rfl rfl rfl rfl ?_;intros;refine zB (zE zJ [] 100 rfl ?_);repeat(first|refine zH ?_|refine vR1 ?_)
 refine zC (zA ?_);refine zB (zX zJ [] [[],[0],[0,1],[0,1,2],[0,1,2,3],[],[5],[5,6],[5,6,7],[5,6,7,8],[],[10],[10,11],[10,11,12],[10,11,12,13],(rgN 15),(rgN 16),(rgN 17)] 200 yT kr rfl ?_);repeat(first|refine zH ?_|refine vR1 ?_)
 refine zQ _ (RangeOf_ok _ _ _ (o.items.getD 0 vl0).nl (o.items.getD 1 vl0).nl (o.items.getD 2 vl0).nl (ho.le 0 de) (ho.le 1 de) (ho.le 2 de) (ho.lg 0 de) (ho.lg 1 de) (ho.lg 2 de) ho.c0) rfl ?_;repeat(first|refine zH ?_|refine vR1 ?_)
 refine zC (zA (zM ?_));exact u4 rfl (u6 _)
theorem refLength_ok(o:Ob)(ho:RgO o):Fx 59 [.agg (obD o)] (rD (rgO o).cnt.1 (rgO o).cnt.2):=by
 refine yF zJ Tryz.func59 rfl rfl rfl rfl rfl rfl ?_;intros;refine zK 100 ?_;refine zB (zE zJ [] 200 rfl ?_);refine zF ?_;refine zQ _ (tS0 o ho) rfl ?_;refine zf (zA (zM ?_));exact u4 rfl (u6 _)
theorem attempts_nil(h:List Ob)(v:Vl)(s:ByteArray)(l:List Vl)(hh:HpIn h)(g:Uh h)(hv:v.k=6->yU h v.r=true)(hl:l.length<=1000000)(hs:(spS h v s).2.2=false):Fx 36 [hpD md h,.agg (vlD v),.v (.string s),vsD l] (.v (.slice none 0 0)):=by
 refine yF zJ Tryz.func36 rfl rfl rfl rfl rfl rfl ?_;intros;refine zK 100 ?_;refine zB ?_;refine zB (zE zJ [] 200 rfl ?_);refine zF ?_;refine zQ _ (tE _ _ _ _ ao ao ao ao) rfl ?_;refine zF ?_;refine zC (zA (zK 300 ?_));refine zY (fun c2=>?_) (fun c2=>?_)
 ·
  simp_all
 ·
  refine zL (zA (zK 500 ?_));refine zM ?_;exact u4 rfl (u6 _)
theorem attS_nil{h:List Ob}{v:Vl}{s:ByteArray}{l:List Vl}:attS h v s l=[]↔(spS h v s).2.2=false:=by
 unfold attS;split
 ·rename_i e;simp[e]
 ·rename_i e;simpa using e
theorem gJ(h:List Ob)(v:Vl)(s:ByteArray)(l:List Vl)(hh:HpIn h)(g:Uh h)(hv:v.k=6->yU h v.r=true)(hl:l.length<=1000000):Fx 36 [hpD md h,.agg (vlD v),.v (.string s),vsD l] (slN 18 (attS h v s l) stD):=
 Fn.slN (e:=st0) (fun e=>attempts_nil h v s l hh g hv hl (attS_nil.1 e)) (fun _=>attempts_ok h v s l hh g hv hl)
variable{md me:Bool}
theorem kD0{x s:Int}(hx:0<x)(hs:0<s):0<Int.fdiv (x+(s-1)) s/\Int.fdiv (x+(s-1)) s<=x/\s*(Int.fdiv (x+(s-1)) s-1)<x:=by
 rw[Em _ om];have h1:=Int.mul_ediv_add_emod (x+(s-1)) s;have h2:=Int.emod_nonneg (x+(s-1)) (show s≠0 by omega);have h3:=Int.emod_lt_of_pos (x+(s-1)) hs;generalize (x+(s-1))/s=q at*;have h4:s*(q-1)=s*q-s:=by rw[Int.mul_sub,Int.mul_one]
 have h5:0<q:=by
  rcases Int.lt_or_le 0 q with h|h
  ·exact h
  ·have:=Eu h (show 0<=s by omega);omega
 refine⟨h5,?_,by omega⟩;have h6:(q-1)*1<=(q-1)*s:=Eu om om;rw[Int.mul_comm (q-1) s]at h6;omega
theorem sg_pos{c:Int}(h:c≠0):0<c*qY c/\(c*qY c=c\/c*qY c= -c):=by unfold qY;split<;>omega
theorem rlen_bd(a b:Int){c:Int}(h0:c≠0):0<=rlen a b c/\(rlen a b c).natAbs<=(b-a).natAbs/\(rlen a b c≠0->(c*(rlen a b c-1)).natAbs<=(b-a).natAbs):=by
 obtain⟨s1,s2⟩:=sg_pos h0;unfold rlen;have key:∀x:Int,0<x->x<=(b-a).natAbs->0<=Int.fdiv (x+(c*qY c-1)) (c*qY c)/\(Int.fdiv (x+(c*qY c-1)) (c*qY c)).natAbs<=(b-a).natAbs/\(Int.fdiv (x+(c*qY c-1)) (c*qY c)≠0->(c*(Int.fdiv (x+(c*qY c-1)) (c*qY c)-1)).natAbs<=(b-a).natAbs):=by
  intro x hx hle;obtain⟨h1,h2,h3⟩:=kD0 hx s1;generalize Int.fdiv (x+(c*qY c-1)) (c*qY c)=q at*;refine⟨by omega,by omega,fun _=>?_⟩;have h4:0<=c*qY c*(q-1):=Int.mul_nonneg om om;have h5:c*(q-1)=c*qY c*(q-1)\/c*(q-1)= -(c*qY c*(q-1)):=by
   rcases s2 with e|e
   ·rw[e];exact .inl rfl
   ·rw[e,Int.neg_mul,Int.neg_neg];exact .inr rfl
  omega
 split
 ·split
  ·exact key (a-b) om om
  ·exact⟨Int.le_refl _,by simp,fun h=>absurd rfl h⟩
 ·split
  ·exact key (b-a) om om
  ·exact⟨Int.le_refl _,by simp,fun h=>absurd rfl h⟩
theorem rlen_sz{a b c:Int}(ha:(lim a.natAbs).length<=40)(hb:(lim b.natAbs).length<=40)(h0:c≠0):(lim (rlen a b c).natAbs).length<=41:=
 Au (qX (rlen_bd a b h0).2.1) (jD hb ha)
theorem rgElem_ok(a b c i:Int)(ha:(lim a.natAbs).length<=128)(hc:(lim c.natAbs).length<=128)(hi:(lim i.natAbs).length<=128)(h1:(lim (c*i).natAbs).length<=128)(h2:(lim (a+c*i).natAbs).length<=128):Fx 182 [.agg (rgD a b c),.agg (zV i)] (.agg (zV (a+c*i))):=by
 refine yF zJ Tryz.func182 rfl rfl rfl rfl rfl rfl ?_;intros;refine zK 100 ?_;refine zB (zX zJ [] [[],[0],[],[2],[],[2,3,4],(rgN 6),(rgN 7)] 200 yT kr rfl ?_);refine zF ?_;refine zQ _ (mV0 c i hc hi h1) rfl ?_;refine zF ?_;refine zQ _ (jK0 a (c*i) ha h1 h2) rfl ?_;refine zf (zA (zM ?_));exact u4 rfl (u6 _)
variable{md me:Bool}
theorem and5:∀a b c d e:Bool,((((a&&b)&&c)&&d)&&e)=((((a&&e)&&d)&&b)&&c):=by decide
theorem mD(b1 b2:Bool)(l1 l2:List Nat):Fx 175 [.agg [.v (.bool b1),usD l1],.agg [.v (.bool b2),usD l2]] (.v (.bool (smI b1 l1 b2 l2))):=by
 refine yF zJ Tryz.func175 rfl rfl rfl rfl rfl rfl ?_;intros;refine zK 100 ?_;refine zB (zE zJ [] 200 rfl ?_);refine zF ?_;refine yN _ (fun hg10=>yK0 _ _) rfl ?_;refine zf (zA (zM ?_));exact u4 rfl (u6 _)
theorem heapSameValue_ok(a b:Vl):Fx 139 [.agg (vlD a),.agg (vlD b)] (.v (.bool (decide (a=b)))):=by
 refine yF zJ Tryz.func139 rfl rfl rfl rfl rfl rfl ?_;intros;refine zK 100 ?_;refine zB (zE zJ [] 200 rfl ?_);refine zF ?_;refine yN _ (fun hg10=>mD _ _ _ _) rfl ?_;refine zF ?_;refine yN _ (fun hg17=>mD _ _ _ _) rfl ?_;refine zf (zA (zM ?_));exact u4 rfl (u7 ((and5 _ _ _ _ _).trans (jL1 a b)))
def eqF(F:Vl->Vl->Bool)(a b:List Vl):Bool:=decide ((a.length:Int)=b.length)&&(List.range a.length).all (prP F a b)
def cpD(md:Bool)(h:List Ob):D:= .pt true [.sl md 10 h obD ob0]
def yN0(h:List Ob)(F:Vl->Vl->Bool)(v w:Vl):Bool:=
 if ¬v.k=6\/¬w.k=6 then decide (v=w)else if v.r=w.r then true
 else decide ((yI h v.r).kind=1)&&decide ((yI h w.r).kind=1)&&eqF F (yI h v.r).items (yI h w.r).items
theorem EqualFunc_ok(h:List Ob)(a b:List Vl)(F:Vl->Vl->Bool)(ha:a.length<=2000000)(H:∀x∈a,∀y∈b,Fx 141 [.agg (vlD x),.agg (vlD y),cpD md h] (.v (.bool (F x y)))):Fx 140 [vsD a,vsD b,.clo 141 [cpD md h]] (.v (.bool (eqF F a b))):=by
 refine yF zJ Tryz.func140 rfl rfl rfl rfl rfl rfl ?_;intros;refine zK 100 ?_;refine zB (zK 200 ?_);refine zW rfl (fun c1=>?_) (fun c1=>?_)
 ·replace c1:¬(a.length:Int)=b.length:=by simpa using c1
  refine zK 300 ?_;refine zM (zP ?_);exact u4 rfl (u7 (by rw[eqF,Ca c1];rfl))
 ·replace c1:(a.length:Int)=b.length:=by simpa using c1
  refine zL (zA (zB (zK 400 ?_)));refine zO ?_;refine yC (ι:=Up a.length (prP F a b)) [1,2,15,16] [] 450 (fun x=>[(17,.v (.int .i64 x.k))]) (fun _=>[]) (fun x=>a.length-x.k) ⟨0,Ap _,fun j hj=>by omega⟩ ?_;refine⟨⟨yG,yE,rfl,rfl⟩,fun x=>?_⟩;have hk:=x.le;refine zK 500 ?_;refine zB (zY (fun c4=>?_) (fun c4=>?_))
  ·
   refine zL (zA (zB (zO (zK 600 ?_))));refine zK 700 ?_;refine zB (zE zJ [] 800 rfl ?_);refine zF ?_;refine zQ _ (H _ (by rw[wT c4];exact Cv _) _ (by rw[wT om];exact Cv _)) rfl ?_;refine zF ?_;refine zC (zA (zY (fun c7=>?_) (fun c7=>?_)))
   ·
    refine zK 900 ?_;refine zM (zR (zP (yS (zR (zP ?_)))));exact u4 rfl (u7 (by rw[eqF,Up.no (p:=prP F a b) c4 c7,Bool.and_false]))
   ·
    refine zL (zN (zA (yM zJ [] 1000 ?_)));exact zS (x.next c4 c7) ⟨yG,yE,rfl,rfl⟩ (by show a.length-(x.k+1)<a.length-x.k;omega)
  ·
   refine yD (yA (yB (zZ (zA (zK 1100 ?_)))));refine zM ?_;exact u4 rfl (u7 (by rw[eqF,Bh c1,x.yes om];rfl))
theorem SameKeyC_ok(h:List Ob)(x y:Vl)(b:Bool)(H:Fx 91 [hpD md h,.agg (vlD x),.agg (vlD y)] (.v (.bool b))):Fx 141 [.agg (vlD x),.agg (vlD y),cpD md h] (.v (.bool b)):=by
 refine yF zJ Tryz.func141 rfl rfl rfl rfl rfl rfl ?_;intros;refine zK 100 ?_;refine zB (zE zJ [] 200 rfl ?_);refine zF ?_;refine zQ _ (H) rfl ?_;refine zf (zA (zM ?_));exact u4 rfl (u6 _)
theorem gN(h:List Ob)(v w:Vl)(F:Vl->Vl->Bool)(hh:HpIn h)(hv:v.k=6->inH h v.r)(hw:w.k=6->inH h w.r)(H:v.k=6->w.k=6->(yI h v.r).kind=1->∀x∈(yI h v.r).items,∀y∈(yI h w.r).items,Fx 91 [hpD md h,.agg (vlD x),.agg (vlD y)] (.v (.bool (F x y)))):Fx 91 [hpD md h,.agg (vlD v),.agg (vlD w)] (.v (.bool (yN0 h F v w))):=by
 refine yF zJ Tryz.func91 rfl rfl rfl rfl rfl rfl ?_;intros;refine zK 100 ?_;refine zB (zK 200 ?_);refine zW rfl (fun c1=>?_) (fun c1=>?_)
 ·replace c1:¬v.k=6\/¬w.k=6:=by simpa[Classical.or_iff_not_imp_left]using c1
  refine zB (zE zJ [] 300 rfl ?_);refine zF ?_;refine zQ _ (heapSameValue_ok _ _) rfl ?_;refine zf (zA (zM (zP ?_)));exact u4 rfl (u7 (by rw[yN0,Ab c1]))
 ·replace c1:¬(¬v.k=6\/¬w.k=6):=by simpa using c1
  refine zL (zA (zB (zK 400 ?_)));refine zY (fun c3=>?_) (fun c3=>?_)
  ·
   refine zK 500 ?_;refine zM (zP ?_);exact u4 rfl (u7 (by rw[yN0,Aa c1,Ab c3]))
  ·
   refine zL (zA ?_);refine zB (zX zJ [] [[],[0],[],[2],[0,1,2,3],(rgN 5),[],[6],[],[8],[6,7,8,9],[6,7,8,9,10],[],[],[0,1,2,3,4,5,12,13],(rgN 15)] 600 yT kr rfl ?_);repeat(first|refine zH ?_|refine zT (by first|exact hv (by omega)|exact hw (by omega)) ?_)
   refine zC (zA ?_);refine zB (zE zJ [] 700 rfl ?_);refine zF ?_;refine⟨fun hs=>?_,fun hs=>?_⟩
   ·refine zF ?_;refine jH0 _ (fun hg=>EqualFunc_ok h _ _ F (hh.at v.r).il fun x hx y hy=>SameKeyC_ok h x y _ (H om om (by have h1:(decide ((yI h v.r).kind=1)&&decide ((yI h w.r).kind=1))=true:=hs;simp only[Aj,Ao]at h1;exact h1.1) x hx y hy)) rfl rfl ?_;refine zf (zA (zM ?_));exact u4 rfl (u7 (by rw[yN0,Aa c1,Aa c3,show(decide ((yI h v.r).kind=1)&&decide ((yI h w.r).kind=1))=true from hs,Ds]))
   ·refine zF ?_;refine yN (.v (.bool false)) (fun hg=>by rw[hs]at hg;cases hg) rfl ?_;refine zf (zA (zM ?_));exact u4 rfl (u7 (by rw[yN0,Aa c1,Aa c3,show(decide ((yI h v.r).kind=1)&&decide ((yI h w.r).kind=1))=false from hs];rfl))
def Rv(h:List Ob)(v:Vl):Prop:=v.k=6->yU h v.r=true
theorem bQ{h:List Ob}{v:Vl}(hr:Rv h v)(hk:v.k=6):zU h v=yI h v.r:=xV hr hk
theorem pG0{h:List Ob}{v:Vl}(hk:(zU h v).kind=1):v.k=6:=(jV (by rw[hk];decide)).1
theorem gY0{h:List Ob}(g:Uh h){n:Int}(hn:yU h n=true){v:Vl}(hv:v∈(yI h n).items):Rv h v:=fun hk=>g.items (yR hn) hv hk
theorem qV0{v:Vl}(h:qB v=true)(hk:v.k=6):v=⟨6,false,[],false,[],⟨#[]⟩,v.r⟩:=by
 unfold qB at h;rw[Aa om,Aa om,Aa om,Aa om,Aa om,Aa om,Aa om,Ab hk]at h;simp only[Aj,zI,gN0,emS,Ao]at h;obtain⟨⟨⟨h1,h2⟩,h3,h4⟩,h5⟩:=h
 cases v
 simp_all
theorem ref_eq{v w:Vl}(h1:qB v=true)(h2:qB w=true)(hv:v.k=6)(hw:w.k=6)(hr:v.r=w.r):v=w:=by
 rw[qV0 h1 hv,qV0 h2 hw,hr]
theorem pO0{h:List Ob}(g:Uh h){n:Int}(hn:yU h n=true)(h1:(yI h n).kind=1){v:Vl}(hv:v∈(yI h n).items):qB v=true:=by
 have hin:=yR hn;by_cases h49:n.toNat<49
 ·rw[show yI h n=bgO n.toNat from g.lo_at h49]at h1;exact absurd h1 (by show ¬(9:Int)=1;decide)
 ·have e:qB (fixV (yI h ((n.toNat:Nat):Int)) v)=true:=(kZ (g.hi_at om hin.2).vals).ok v (As.2 (.inr hv))
  rwa[fixV,Aa (by rw[<-xW hin,h1];omega)]at e
theorem dW0{n:Nat}{p q:Nat->Bool}(h:∀i,i<n->p i=q i):(List.range n).all p=(List.range n).all q:=by
 rw[Bool.eq_iff_iff,Be,Be];exact⟨fun hp i hi=>by rw[<-h i (Ct.1 hi)];exact hp i hi,fun hp i hi=>by rw[h i (Ct.1 hi)];exact hp i hi⟩
section
variable{h:List Ob}{F G:Vl->Vl->Bool}
theorem yT0(hr:∀x,G x x=true)(v:Vl):dL h G v v=true:=by
 by_cases hk:(zU h v).kind=1/\(zU h v).kind=1
 ·rw[wC hk,Bh rfl,Ds,Be];intro i _;exact hr _
 ·rw[wS hk,Bh rfl]
theorem stepK_symm(hs:∀x y,G x y=G y x)(v w:Vl):dL h G v w=dL h G w v:=by
 by_cases hk:(zU h v).kind=1/\(zU h w).kind=1
 ·rw[wC hk,wC hk.symm];by_cases hl:((zU h v).items.length:Int)=(zU h w).items.length
  ·have hl':(zU h v).items.length=(zU h w).items.length:=by omega
   rw[Bh hl,Bh hl.symm,<-hl'];exact congrArg _ (dW0 fun i _=>hs _ _)
  ·rw[Ca hl,Ca (fun e=>hl e.symm)];rfl
 ·rw[wS hk,wS fun e=>hk e.symm];exact decide_eq_decide.2 eq_comm
end
theorem mK0(h:List Ob):∀(n:Nat)(v:Vl),smK h n v v=true
 |0,v=>Bh rfl
 |n+1,v=>yT0 (mK0 h n) v
theorem jD0(h:List Ob):∀(n:Nat)(v w:Vl),smK h n v w=smK h n w v
 |0,v,w=>decide_eq_decide.2 eq_comm
 |n+1,v,w=>stepK_symm (jD0 h n) v w
def shH(h:List Ob):Nat->Vl->Vl->Bool
 |0=>yN0 h fun _ _=>false
 |n+1=>yN0 h (shH h n)
def Vd(h:List Ob)(v:Vl):Prop:=qB v=true/\Rv h v
theorem tQ0{h:List Ob}{F G:Vl->Vl->Bool}{v w:Vl}(hv:Vd h v)(hw:Vd h w)(hr:∀x,G x x=true)
  (hFG:v.k=6->w.k=6->(yI h v.r).kind=1->(yI h w.r).kind=1->∀x∈(yI h v.r).items,∀y∈(yI h w.r).items,F x y=G x y):yN0 h F v w=dL h G v w:=by
 unfold yN0;by_cases c1:¬v.k=6\/¬w.k=6
 ·rw[Ab c1,wS];rintro⟨e1,e2⟩;rcases c1 with c|c
  ·exact c (pG0 e1)
  ·exact c (pG0 e2)
 ·have k1:v.k=6:=by omega
  have k2:w.k=6:=by omega
  rw[Aa c1];by_cases c2:v.r=w.r
  ·rw[Ab c2,ref_eq hv.1 hw.1 k1 k2 c2,yT0 hr]
  ·rw[Aa c2];have o1:=bQ hv.2 k1;have o2:=bQ hw.2 k2;by_cases hk:(yI h v.r).kind=1/\(yI h w.r).kind=1
   ·rw[wC (by rw[o1,o2];exact hk),o1,o2,Bh hk.1,Bh hk.2,Ds,Ds,eqF];by_cases hl:((yI h v.r).items.length:Int)=(yI h w.r).items.length
    ·refine congrArg _ (dW0 fun i hi=>hFG k1 k2 hk.1 hk.2 _ ?_ _ ?_)
     ·rw[wT hi];exact Cv _
     ·rw[wT om];exact Cv _
    ·rw[Ca hl];rfl
   ·rw[wS (by rw[o1,o2];exact hk),Ca (fun e:v=w=>c2 (by rw[e])),show(decide ((yI h v.r).kind=1)&&decide ((yI h w.r).kind=1))=false from by rw[<-Bool.decide_and];exact Ca hk];rfl
theorem xV1{h:List Ob}(g:Uh h):∀(n:Nat)(v w:Vl),Dp h n v->Vd h v->Vd h w->shH h n v w=smK h n v w
 |0,v,w,hd,hv,hw=>by
  have e1:=tQ0 (F:=fun _ _=>false) (G:=fun x y=>decide (x=y)) hv hw (fun x=>Bh rfl) (fun k1 _ h1 _=>absurd (by rw[bQ hv.2 k1];exact h1) hd);show yN0 h _ v w=decide (v=w);rw[e1,wS fun e=>hd e.1]
 | n+1,v,w,hd,hv,hw=>tQ0 (G:=smK h n) hv hw (mK0 h n) fun k1 k2 h1 h2 x hx y hy=>
   xV1 g n x y (hd (by rw[bQ hv.2 k1];exact h1) x (by rw[bQ hv.2 k1];exact hx)) ⟨pO0 g (hv.2 k1) h1 hx,gY0 g (hv.2 k1) hx⟩ ⟨pO0 g (hw.2 k2) h2 hy,gY0 g (hw.2 k2) hy⟩
theorem wW0{h:List Ob}(hh:HpIn h)(g:Uh h):∀(n:Nat)(v w:Vl),Dp h n v->Rv h v->Rv h w->Fx 91 [hpD md h,.agg (vlD v),.agg (vlD w)] (.v (.bool (shH h n v w)))
 |0,v,w,hd,hv,hw=>gN h v w (fun _ _=>false) hh (fun k=>yR (hv k)) (fun k=>yR (hw k)) fun k1 _ h1=>absurd (by rw[bQ hv k1];exact h1) hd
 | n+1,v,w,hd,hv,hw=>gN h v w (shH h n) hh (fun k=>yR (hv k)) (fun k=>yR (hw k)) fun k1 k2 h1 x hx y hy=>
   wW0 hh g n x y (hd (by rw[bQ hv k1];exact h1) x (by rw[bQ hv k1];exact hx)) (gY0 g (hv k1) hx) (gY0 g (hw k2) hy)
theorem heapKey_ok{h:List Ob}(hh:HpIn h)(g:Uh h){v w:Vl}(hk:uE h v=true)(hv:Vd h v)(hw:Vd h w):Fx 91 [hpD md h,.agg (vlD v),.agg (vlD w)] (.v (.bool (smK h 1001 v w))):=by
 rw[<-xV1 g 1001 v w (pH hk) hv hw];exact wW0 hh g 1001 v w (pH hk) hv.2 hw.2
theorem has_vd{h:List Ob}{v:Vl}(hh:uB h v=true):Vd h v:=⟨by simp only[uB,Aj]at hh;exact hh.1,fun hk=>uF hh hk⟩
def Dk(h:List Ob)(l:List Vl):Prop:=∀i j,i<l.length->j<l.length->i≠j->smK h 1001 (l.getD i vl0) (l.getD j vl0)=false
theorem uC1{h:List Ob}:∀{l seen:List Vl},krF h seen l=0->(∀k∈l,uE h k=true)/\(∀k∈l,∀x∈seen,smK h 1001 x k=false)/\l.Pairwise fun x y=>smK h 1001 x y=false
 |[],_,_=>⟨(fun _ h=>by cases h),(fun _ h=>by cases h),List.Pairwise.nil⟩
 |s::r,seen,hk=>by
  rw[krF]at hk;split at hk
  ·cases hk
  ·rename_i h1;split at hk
   ·cases hk
   ·rename_i h2;obtain⟨a,b,c⟩:=uC1 hk;have h2:∀x∈seen,smK h 1001 x s=false:=by simpa using h2
    refine⟨fun k hk=>?_,fun k hk x hx=>?_,List.Pairwise.cons (fun y hy=>b y hy s (As.2 (.inr (Bv.2 rfl)))) c⟩
    ·rcases Bl.1 hk with rfl|hk
     ·simpa using h1
     ·exact a k hk
    ·rcases Bl.1 hk with rfl|hk
     ·exact h2 x hx
     ·exact b k hk x (As.2 (.inl hx))
theorem dk_of{h:List Ob}{l:List Vl}(hp:l.Pairwise fun x y=>smK h 1001 x y=false):Dk h l:=by
 intro i j hi hj hne;have hg:∀{i:Nat}(hi:i<l.length),l.getD i vl0=l[i]:=fun hi=>by rw[Ac,Ae hi];rfl
 rw[hg hi,hg hj];rcases Nat.lt_or_gt_of_ne hne with h1|h1
 ·exact List.pairwise_iff_getElem.1 hp i j hi hj h1
 ·rw[jD0];exact List.pairwise_iff_getElem.1 hp j i hj hi h1
structure Kd(h:List Ob)(l:List Vl):Prop where
 keyed:∀k∈l,uE h k=true
 vd:∀k∈l,Vd h k
 dk:Dk h l
theorem gI1{h:List Ob}(g:Uh h){v:Vl}(hv:v.k=6->yU h v.r=true)(hk:(zU h v).kind=3\/(zU h v).kind=4):Kd h (zU h v).keys:=by
 obtain⟨h6,ho,e⟩:=jV (h:=h) (v:=v) om;rw[e]at hk⊢;have hin:=yR ho;have h49:¬v.r.toNat<49:=fun hl=>by
  rw[show yI h v.r=bgO v.r.toNat from g.lo_at hl]at hk;exact absurd hk (by show ¬((9:Int)=3\/(9:Int)=4);decide)
 have u:=g.hi_at (i:=v.r.toNat) om hin.2;rw[<-xW hin]at u;have vs:=kZ u.vals;obtain⟨a,_,c⟩:=uC1 u.keys;refine⟨a,fun k hk'=>⟨?_,fun h6=>vs.vals k (As.2 (.inl hk')) h6⟩,dk_of c⟩;have:=vs.ok k (As.2 (.inl hk'))
 rwa[fixV,Aa om]at this
def mdP(h:List Ob)(op:Int)(b:List Vl)(k:Vl):Bool:=(decide (op=15)||(decide (op=14)&&decide (0<=plI h b k)))||((decide (op=6)||decide (op=16))&& !decide (0<=plI h b k))
def mx2(h:List Ob)(op:Int)(a:List Vl)(k:Vl):Bool:=(decide (op=15)||decide (op=16))&&decide (plI h a k<0)
def mixS(h:List Ob)(op:Int)(a b:List Vl):List Vl:=a.filter (mdP h op b)++b.filter (mx2 h op a)
theorem dB0{l:List Vl}{p:Vl->Bool}{i:Nat}(hi:i<l.length)(hp:p (l.getD i vl0)=true):(l.take (i+1)).filter p=(l.take i).filter p++[l.getD i vl0]:=by
 have e:l.getD i vl0=l[i]:=by rw[Ac,Ae hi];rfl
 rw[Dh hi,List.filter_append,<-e,Eb,Ab hp];rfl
theorem zO1{l:List Vl}{p:Vl->Bool}{i:Nat}(hi:i<l.length)(hp:¬p (l.getD i vl0)=true):(l.take (i+1)).filter p=(l.take i).filter p:=by
 have e:l.getD i vl0=l[i]:=by rw[Ac,Ae hi];rfl
 rw[Dh hi,List.filter_append,<-e,Eb,Aa hp];simp
theorem dC0(l:List Vl)(p:Vl->Bool)(i:Nat):((l.take i).filter p).length<=l.length:=Au (List.length_filter_le _ _) (by rw[At];omega)
section
variable{h:List Ob}{x y:Ob}{i:Nat}(hi:i<y.keys.length)
include hi
end
variable{md me:Bool}
def vpD(k:Vl):D:= .pt true (vlD k)
theorem cZ(h:List Ob)(v:Vl)(hv:v.k=6->yU h v.r=true):Fx 44 [hpD md h,.agg (vlD v)] (.agg (obD (zU h v))):=by
 refine yF zJ Tryz.func44 rfl rfl rfl rfl rfl rfl ?_;intros;refine zK 100 ?_;refine zB (zK 200 ?_);refine zY (fun c1=>?_) (fun c1=>?_)
 ·
  refine zK 300 ?_;refine zM (zP ?_);have e:zU h v=ob0:=wE c1;rw[e];exact u4 rfl (by repeat(first|exact trivial|exact u6 _|exact u12 rfl|refine u20 ?_|refine⟨?_,?_⟩))
 ·
  refine zL (zA ?_);refine zB (zE zJ [] 400 rfl ?_);repeat(first|refine zH ?_|refine zT (by exact yR (hv c1)) ?_)
  refine zC (zA (zM ?_));have e:zU h v=h.getD v.r.toNat ob0:=xV hv c1;rw[e];exact u4 rfl (by repeat(first|exact trivial|exact u6 _|exact u12 rfl|refine u20 ?_|refine⟨?_,?_⟩))
theorem IndexFuncV_ok(h:List Ob)(l:List Vl)(k:Vl)(H:∀x∈l,Fx 90 [.agg (vlD x),cpD md h,vpD k] (.v (.bool (smK h 1001 x k)))):Fx 89 [.sl me 7 l vlD vl0,.clo 90 [cpD md h,vpD k]] (.v (.int .i64 (plI h l k))):=by
 refine yF zJ Tryz.func89 rfl rfl rfl rfl rfl rfl ?_;intros;refine wM 0 rfl fun hl0=>?_;refine zK 100 ?_;refine zB (zK 200 ?_);refine zO ?_;refine yC (ι:=Al l (fun x=> !smK h 1001 x k)) [0,1,7] [] 250 (fun x=>[(8,.v (.int .i64 x.k))]) (fun _=>[]) (fun x=>l.length-x.k) ⟨0,Ap _,fun j x hj=>by omega⟩ ?_;refine⟨⟨yG,yE,rfl,rfl⟩,fun x=>?_⟩;have hk:=x.le;refine zK 300 ?_;refine zB (zW rfl (fun c2=>?_) (fun c2=>?_))
 ·have c2:x.k<l.length:=by simpa using c2
  refine zL (zA (zB (zO (zK 400 ?_))));refine zB (zE zJ [] 500 rfl ?_);refine zF ?_;refine zQ _ (H _ (by rw[wT c2];exact Cv _)) rfl ?_;refine zF ?_;refine zC (zA (zY (fun c4=>?_) (fun c4=>?_)))
  ·
   refine zK 600 ?_;refine zM (zR (zP (yS (zR (zP ?_)))));exact u4 rfl (u10 (cH0 x.all (wX0 c2 vl0) c4).symm)
  ·
   refine zL (zN (zA (yM zJ [] 700 ?_)));exact zS (x.next (e:=vl0) c2 (by rw[c4];rfl)) ⟨yG,yE,rfl,rfl⟩ (by show l.length-(x.k+1)<l.length-x.k;omega)
 ·have c2:¬x.k<l.length:=by simpa using c2
  refine yD (yA (yB (zZ (zA (zK 800 ?_)))));refine zM ?_;exact u4 rfl (u10 (jP0 (fun y hy=>by
    have:=Be.1 (x.yes c2) y hy;simpa using this)).symm)
theorem placeC_ok(h:List Ob)(w k:Vl)(hh:HpIn h)(g:Uh h)(hk:uE h k=true)(hv:Vd h k)(hw:Vd h w):Fx 90 [.agg (vlD w),cpD md h,vpD k] (.v (.bool (smK h 1001 w k))):=by
 refine yF zJ Tryz.func90 rfl rfl rfl rfl rfl rfl ?_;intros;refine zK 100 ?_;refine zB (zE zJ [] 200 rfl ?_);refine zF ?_;refine zQ _ ((heapKey_ok hh g hk hv hw).out (u7 (jD0 h 1001 k w))) rfl ?_;refine zf (zA (zM ?_));exact u4 rfl (u6 _)
theorem opPlace_ok(h:List Ob)(l:List Vl)(k:Vl)(hh:HpIn h)(g:Uh h)(hk:uE h k=true)(hv:Vd h k)(hl:∀x∈l,Vd h x):Fx 50 [hpD md h,.sl me 7 l vlD vl0,.agg (vlD k)] (.v (.int .i64 (plI h l k))):=by
 refine yF zJ Tryz.func50 rfl rfl rfl rfl rfl rfl ?_;intros;refine zK 100 ?_;refine zB (zE zJ [] 200 rfl ?_);refine zF ?_;refine qC _ (IndexFuncV_ok h l k fun x hx=>placeC_ok h x k hh g hk hv (hl x hx)) rfl rfl ?_;refine zf (zA (zM ?_));exact u4 rfl (u6 _)
theorem wY0{l:List Vl}{i:Nat}(hi:i<l.length):l.getD i vl0∈l:=by
 rw[Ac,Ae hi];exact Cv _
theorem xN1{P:Program}{E:Pn}{K:DS->Prop}{p:Prop}{r:Out}(hr:r.sat P E K)(hp:p:=by first|exact jE (by simp only[Af];omega)|(simp only[Ar,Af,An,Aw];omega)|exact Ew):(Out.need p r).sat P E K:=⟨hp,hr⟩
theorem mixed_ok(h:List Ob)(op:Int)(a b:List Vl)(hh:HpIn h)(g:Uh h)(ka:Kd h a)(kb:Kd h b)(hla:a.length<=2000000)(hlb:b.length<=2000000):Fx 52 [hpD md h,.v (.int .i64 op),vsD a,vsD b] (.tup [.sl false 7 (mixS h op a b) vlD vl0,.v (.bool (((decide (op=15)||decide (op=14))||decide (op=6))||decide (op=16)))]):=by
 refine yF zJ Tryz.func52 rfl rfl rfl rfl rfl rfl ?_;intros;refine wM 2 rfl fun hl2=>?_;refine wM 3 rfl fun hl3=>?_;refine zK 100 ?_;refine zK 200 ?_;refine yZ 10 29 7 rfl ?_;refine zB (zK 300 ?_);refine zO ?_;refine yC (ι:={i:Nat//i<=a.length}) [1,2,3,4,16,17] [0] 350 (fun x=>[(18,.v (.int .i64 x.1)),(10,.own 200 7 (((a.take x.1).filter (mdP h op b)).map vlD))]) (fun x=>[(200,.row 29 7 (((a.take x.1).filter (mdP h op b)).map vlD).length)]) (fun x=>a.length-x.1) ⟨0,Ap _⟩ ?_;refine⟨⟨⟨u21 rfl,Sub.own rfl,yG⟩,⟨⟨rfl,rfl,rfl⟩,yE⟩,rfl,rfl⟩,fun x=>?_⟩;have hk1:x.1<=a.length:=x.2;refine zK 400 ?_;refine zB (zW rfl (fun c3=>?_) (fun c3=>?_))
 ·have hlt:x.1<a.length:=by simpa using c3
  have hka:=ka.keyed _ (wY0 hlt);have hva:=ka.vd _ (wY0 hlt);have hfl:=dC0 a (mdP h op b) x.1;refine zL (zA (zB (zO (zK 500 ?_))));refine yK [1,2,3,4,10,12,16,17,18] [0,200,402] 510 [] [(402,.box 29 (vlD (a.getD x.1 vl0)))] ?_;refine⟨⟨yG,⟨⟨rfl,SubL.same rfl⟩,yE⟩,rfl,rfl⟩,?_⟩;refine zB (zE zJ [] 600 rfl ?_);refine zF ?_;refine zQ _ (vE0 h b _ hh (fun y hy=>pH (kb.keyed y hy))) rfl ?_;refine zF ?_;refine zC (zA (zK 700 ?_));refine zY (fun c6=>?_) (fun c6=>?_)
  ·
   refine zE zJ [] 800 rfl ?_;repeat(first|refine zH ?_|refine xN1 ?_)
   refine zC (zN (zA (yM zJ [] 900 ?_)));have hN:=dB0 (p:=mdP h op b) hlt (by simpa[mdP]using c6);exact zS ⟨x.1+1,by omega⟩ ⟨⟨u21 (by push_cast;rfl),Sub.own (by rw[hN,Ad];rfl),yG⟩,⟨⟨rfl,rfl,by rw[hN];simp⟩,yE⟩,rfl,rfl⟩ (by show a.length-(x.1+1)<a.length-x.1;omega)
  ·
   refine zL (zN (zA (yM zJ [] 900 ?_)));have hN:=zO1 (p:=mdP h op b) hlt (by simpa[mdP]using c6);exact zS ⟨x.1+1,by omega⟩ ⟨⟨u21 (by push_cast;rfl),Sub.own (by rw[hN]),yG⟩,⟨⟨rfl,rfl,by rw[hN]⟩,yE⟩,rfl,rfl⟩ (by show a.length-(x.1+1)<a.length-x.1;omega)
 ·have hke:x.1=a.length:=by simp at c3;omega
  have htk:a.take x.1=a:=Ak om;refine yD (yA (yB (zZ (zA (zB (zK 1000 ?_))))));refine zO ?_;refine yC (ι:={i:Nat//i<=b.length}) [1,2,4,53,54] [0] 1050 (fun z=>[(55,.v (.int .i64 z.1)),(10,.own 200 7 ((a.filter (mdP h op b)++(b.take z.1).filter (mx2 h op a)).map vlD))]) (fun z=>[(200,.row 29 7 ((a.filter (mdP h op b)++(b.take z.1).filter (mx2 h op a)).map vlD).length)]) (fun z=>b.length-z.1) ⟨0,Ap _⟩ ?_;refine⟨⟨⟨u21 rfl,Sub.own (by rw[htk];simp),yG⟩,⟨⟨rfl,rfl,by rw[htk];simp⟩,yE⟩,rfl,rfl⟩,fun z=>?_⟩;have hk2:z.1<=b.length:=z.2;refine zK 1100 ?_;refine zB (zW rfl (fun c10=>?_) (fun c10=>?_))
  ·have hlt2:z.1<b.length:=by simpa using c10
   have hkb:=kb.keyed _ (wY0 hlt2);have hvb:=kb.vd _ (wY0 hlt2);have hfl:=dC0 b (mx2 h op a) z.1;have hfa:=List.length_filter_le (mdP h op b) a;refine zL (zA (zB (zO (zK 1200 ?_))));refine yK [1,2,4,10,15,53,54,55] [0,200,1102] 1210 [] [(1102,.box 29 (vlD (b.getD z.1 vl0)))] ?_;refine⟨⟨yG,⟨⟨rfl,SubL.same rfl⟩,yE⟩,rfl,rfl⟩,?_⟩;refine zB (zE zJ [] 1300 rfl ?_);refine zF ?_;refine yN _ (fun hg10=>vE0 h a _ hh (fun y hy=>pH (ka.keyed y hy))) rfl ?_;refine zF ?_;refine zC (zA (zY (fun c12=>?_) (fun c12=>?_)))
   ·
    refine zE zJ [] 1400 rfl ?_;repeat(first|refine zH ?_|refine xN1 ?_)
    refine zC (zN (zA (yM zJ [] 1500 ?_)));have hN:=dB0 (p:=mx2 h op a) hlt2 (by simpa[mx2]using c12);exact zS ⟨z.1+1,by omega⟩ ⟨⟨u21 (by push_cast;rfl),Sub.own (by rw[hN,<-Cr,Ad (l₂:=[_])];rfl),yG⟩,⟨⟨rfl,rfl,by rw[hN];simp[Dy]⟩,yE⟩,rfl,rfl⟩ (by show b.length-(z.1+1)<b.length-z.1;omega)
   ·
    refine zL (zN (zA (yM zJ [] 1500 ?_)));have hN:=zO1 (p:=mx2 h op a) hlt2 (by simpa[mx2]using c12);exact zS ⟨z.1+1,by omega⟩ ⟨⟨u21 (by push_cast;rfl),Sub.own (by rw[hN]),yG⟩,⟨⟨rfl,rfl,by rw[hN]⟩,yE⟩,rfl,rfl⟩ (by show b.length-(z.1+1)<b.length-z.1;omega)
  ·have hke2:z.1=b.length:=by simp at c10;omega
   refine yD (yA (yB (zZ (zA (zK 1600 ?_)))));refine zM ?_;exact u4 rfl (u19 ⟨SubP.ownSl (by rw[hke2,List.take_length];rfl),u7 (by rfl),trivial⟩)
variable{md me:Bool}
theorem mapsnoc(l:List Vl)(v:Vl):(l++[v]).map vlD=l.map vlD++[vlD v]:=by rw[Ad];rfl
variable{md me:Bool}
def exR(h:List Ob)(v:Vl)(es:List Vl):St:=if(1000:Int)<((zU h v).items.length:Int)+(es.length:Int)then raS 42 tooB else vlS v
def exH(h:List Ob)(v:Vl)(es:List Vl):List Ob:=if(1000:Int)<((zU h v).items.length:Int)+(es.length:Int)then h else h.set v.r.toNat {zU h v with items:=(zU h v).items++es}
theorem cF{h:List Ob}{n:Nat}{o:Ob}{row:List D}(hr:D.pvs row=D.pvs (obD o)):D.pvss ((h.map obD).set n row)=D.pvss ((h.set n o).map obD):=by
 rw[yO,yO,List.map_set,hr,Cp,Cp,List.map_set];rfl
theorem ob_items(o:Ob)(k:Nat)(l:List Vl):D.pvs ((obD o).take 6++[.own k 7 (l.map vlD)]++(obD o).drop 7)=D.pvs (obD {o with items:=l}):=by
 show D.pvs [_,_,_,_,_,_,D.own k 7 (l.map vlD),_,_,_]=D.pvs [_,_,_,_,_,_,D.sl false 7 l vlD vl0,_,_,_];simp only[D.pvs,D.pv,yO,Cp];rfl
theorem kA{h:List Ob}(g:Uh h)(v:Vl):(zU h v).keys.length<=1000/\(zU h v).items.length<=1000:=by
 by_cases hk:(zU h v).kind=0
 ·unfold zU at hk⊢;split
  ·rename_i h1;have:=h1.2;simp only[yU,Aj,Bo,Ay]at this;rw[Ab h1]at hk;exact absurd hk this.2
  ·exact⟨by decide,by decide⟩
 ·obtain⟨h6,ho,e⟩:=jV (h:=h) (v:=v) hk;rw[e];have hin:=yR ho;by_cases h49:v.r.toNat<49
  ·rw[show yI h v.r=bgO v.r.toNat from g.lo_at h49];exact⟨Ap _,Ap _⟩
  ·have u:=g.hi_at (i:=v.r.toNat) om hin.2;rw[<-xW hin]at u;have hz:=u.sizes;unfold uL at hz;split at hz
   ·cases hz
   ·split at hz
    ·cases hz
    ·rename_i h2;simp only[Cl,Ao,not_or]at h2;obtain⟨h3,h4⟩:=h2;unfold mx3 at h3;repeat' split at h3
     all_goals omega
theorem bY(s:St)(h:List Ob):chkG 2 (.agg (stD s)) (hpO h)=true:=rfl
theorem vQ1{P:Program}{E:Pn}{K:DS->Prop}{p:Prop}{r:Out}(hr:r.sat P E K)(hp:p:=by first|rfl|exact⟨by omega,hvl.2⟩|exact⟨hvl.1,hvl.2⟩|exact⟨by simp[MR.len],by show _<(MR.map h obD ob0).len;simpa[MR.len]using hvl.2⟩|(simp only[MR.len];done)|exact Ew):(Out.need p r).sat P E K:=⟨hp,hr⟩
theorem opExtend_G(h:List Ob)(v:Vl)(es:List Vl)(hh:HpIn h)(g:Uh h)(hv:v.k=6/\yU h v.r=true)(he:es.length<=2000000):FnG Tryz.prog 14 [.bp 0 0,.agg (vlD v),vsD es] (hpO h) (.agg (stD (exR h v es))) (hpO (exH h v es)):=by
 have hvo:v.k=6->yU h v.r=true:=fun _=>hv.2;have hvl:=gA hv.2;have eo:zU h v=h.getD v.r.toNat ob0:=xV hvo hv.1;have hlx:=kA g v;have hhl:=hh.len;refine jY zJ Tryz.func14 rfl rfl rfl rfl rfl rfl rfl ?_;intros;refine zK 100 ?_;refine zB (zX zJ [] mK1 200 yT kr rfl ?_);refine zF ?_;refine qC _ (cZ h v hvo) rfl rfl ?_;refine zF ?_;refine zC (zA (zB (zK 300 ?_)));refine zY (fun c2=>?_) (fun c2=>?_)
 ·
  refine zB (zE zJ [] 400 rfl ?_);refine zF ?_;refine zQ _ (yY0) rfl ?_;refine zf (zA (zM (zP ?_)));rw[show exR h v es=_ from Ab c2,show exH h v es=_ from Ab c2];exact u11 2 rfl rfl (Sub.ofP (u20 (SubPs.refl _)) rfl rfl) ⟨⟨rfl,Sub.mo (by simp),rfl,trivial⟩,SubO.mp rfl,trivial⟩
 ·
  refine zL (zA ?_);refine zB (zX zJ [31] [[],[0],[0,1],[0,1,2],[],[4],[],[6],[],[6,7,8],[6,7,8,9],(rgN 11),(rgN 12),(rgN 13)] 500 yT kr rfl ?_);repeat(first|refine zH ?_|refine vQ1 ?_)
  refine qR _ _ _ ((bN [(zU h v).items,es] (by rw[xK0,Af];omega) (by show 2<=1000;omega)).args ⟨u18 rfl,trivial⟩) ?_;repeat(first|refine zH ?_|refine vQ1 ?_)
  refine zC (zA ?_);refine zB (zE zJ [] 600 rfl ?_);refine zF ?_;refine zQ _ (opValue_ok v) rfl ?_;refine zf (zA (zM ?_));rw[show exR h v es=_ from Aa (Int.not_lt.2 c2),show exH h v es=_ from Aa (Int.not_lt.2 c2)];exact u11 2 rfl rfl (Sub.ofP (u20 (SubPs.refl _)) rfl rfl) ⟨⟨rfl,Sub.mo (by simp),rfl,trivial⟩,SubO.mp (cF (by rw[<-eo];show D.pvs ((obD (zU h v)).take 6++[.own _ 7 ((ctL [(zU h v).items,es] 2).map vlD)]++(obD (zU h v)).drop 7)=_;rw[show ctL [(zU h v).items,es] 2=_ from xK0 _ _];exact ob_items _ _ _)),trivial⟩
theorem xM1{P:Program}{E:Pn}{K:DS->Prop}{p:Prop}{r:Out}(hr:r.sat P E K)(hp:p:=by first|exact⟨by omega,hvl.2⟩|exact⟨by simp[MR.len],by simpa[MR.len]using hvl.2⟩|exact Ew):(Out.need p r).sat P E K:=⟨hp,hr⟩
theorem Extend_G(h:List Ob)(v:Vl)(es:List Vl)(hh:HpIn h)(g:Uh h)(hv:v.k=6/\yU h v.r=true)(he:es.length<=2000000):FnG Tryz.prog 15 [.bp 0 0,.agg (vlD v),vsD es] (hpO h) (.agg (stD (exR h v es))) (hpO (exH h v es)):=by
 have hvo:v.k=6->yU h v.r=true:=fun _=>hv.2;have hvl:=gA hv.2;have eo:zU h v=h.getD v.r.toNat ob0:=xV hvo hv.1;have hlx:=kA g v;have hhl:=hh.len;refine jY zJ Tryz.func15 rfl rfl rfl rfl rfl rfl rfl ?_;intros;refine zK 100 ?_;refine zB (zX zJ [19] [[],[0],[0,1],[0,1,2],[],[4],(rgN 6),(rgN 7),(rgN 8),[],(rgN 10),(rgN 11),(rgN 12)] 200 yT kr rfl ?_);repeat(first|refine zH ?_|refine xM1 ?_)
 refine qR _ _ _ ((bN [(h.getD v.r.toNat ob0).items,es] (by rw[<-eo,xK0,Af];omega) (by show 2<=1000;omega)).args ⟨u18 rfl,trivial⟩) ?_;repeat(first|refine zH ?_|refine xM1 ?_)
 refine zC (zA ?_);refine yK [0,4,6] [2,3] 210 [(7,.sl false 7 ((zU h v).items++es) vlD vl0)] [(0,.box 24 [.mo 1 h.length]),(1,.mrow 43 10 (.map h obD ob0))] ?_;refine⟨⟨⟨u5 (by rw[<-eo];exact congrArg (List.map vlD) (xK0 _ _)),yG⟩,⟨⟨rfl,u0 _,rfl,trivial⟩,SubO.mp rfl,yE⟩,rfl,rfl⟩,?_⟩;refine zB (zK 300 ?_);refine zW rfl (fun c2=>?_) (fun c2=>?_)
 ·have c2:(1000:Int)<((zU h v).items.length:Int)+(es.length:Int):=by simpa using c2
  refine zB (zE zJ [] 400 rfl ?_);refine zF ?_;refine zQ _ (yE0) rfl ?_;refine zf (zA (zM (zP ?_)));rw[show exR h v es=_ from Ab c2,show exH h v es=_ from Ab c2];exact u11 2 rfl rfl (Sub.ofP (u20 (SubPs.refl _)) rfl rfl) ⟨⟨rfl,Sub.mo (by simp),rfl,trivial⟩,SubO.mp rfl,trivial⟩
 ·have c2:¬(1000:Int)<((zU h v).items.length:Int)+(es.length:Int):=by simpa using c2
  refine zL (zA ?_);refine zB (zX zJ [] mK20 500 yT kr rfl ?_);repeat(first|refine zH ?_|refine vQ1 ?_)
  refine zC (zA ?_);refine zB (zE zJ [] 600 rfl ?_);refine zF ?_;refine zQ _ (jO v) rfl ?_;refine zf (zA (zM ?_));rw[show exR h v es=_ from Aa c2,show exH h v es=_ from Aa c2];exact u11 2 rfl rfl (Sub.ofP (u20 (SubPs.refl _)) rfl rfl) ⟨⟨rfl,Sub.mo (by simp),rfl,trivial⟩,SubO.mp (cF (by rw[<-eo];rfl)),trivial⟩
theorem pR0{h:List Ob}{v:Vl}(hk:(zU h v).kind=3\/(zU h v).kind=4):v.k=6/\yU h v.r=true:=by
 obtain⟨h6,ho,_⟩:=jV (h:=h) (v:=v) om;exact⟨h6,ho⟩
def paF(g:Vl->Int->Vl×Bool×Int)(v:Vl):List Vl->Int->Vl×Bool×Int
 |[],left=>(v,true,left)
 |w::l,left=>if left<0 then(v,true,left)else if(g w left).2.1=false then((g w left).1,false,(g w left).2.2)else paF g v l (g w left).2.2
def paP(h:List Ob)(g:Vl->Int->Vl×Bool×Int)(v:Vl)(left:Int):Vl×Bool×Int:=
 if(zU h v).kind=2\/(zU h v).kind=3\/(zU h v).kind=4\/(zU h v).kind=5 then(v,decide (left-1<0),left-1)
 else if(zU h v).kind=1 then paF g v (zU h v).items (left-1)else(v,true,left-1)
def paS(h:List Ob):Nat->Vl->Int->Vl×Bool×Int
 |0=>fun v _=>(v,true,-1)
 |f+1=>paP h (paS h f)
structure PaO(h:List Ob)(left:Int)(l rest out:List Vl)(r:Vl×Bool×Int):Prop where
 lo: -1<=r.2.2
 hi:r.2.2<=left
 no:r.2.1=false->0<=r.2.2/\∃L,ptS h (left+1).toNat (l++rest) out=(out++L++[r.1],false)/\(L.length:Int)+1=left-r.2.2
 yes:r.2.1=true->0<=r.2.2->∃L,ptS h (left+1).toNat (l++rest) out=ptS h (r.2.2+1).toNat rest (out++L)/\(L.length:Int)=left-r.2.2
 end_:r.2.1=true->r.2.2<0->∃L b,ptS h (left+1).toNat (l++rest) out=(out++L,b)/\(L.length:Int)=left+1
section
variable{h:List Ob}(g:Uh h)
include g
omit g in
theorem cJ0{F:Vl->Int->Vl×Bool×Int}(v:Vl):∀(l:List Vl)(left:Int)(rest out:List Vl),-1<=left->(∀w∈l,∀(k:Int)(rest out:List Vl),0<=k->k<=left->PaO h k [w] rest out (F w k))->PaO h left l rest out (paF F v l left)
 |[],left,rest,out,h1,_=>by
  refine⟨h1,Int.le_refl _,(fun hh=>by cases hh),fun _ h0=>⟨[],by rw[Ck];rfl,by show(0:Int)=left-left;omega⟩,fun _ h0=>⟨[],true,?_,by show(0:Int)=left+1;have h0:left<0:=h0;omega⟩⟩;have h0:left<0:=h0;rw[show(left+1).toNat=0 by omega,Ck];rfl
 |w::l,left,rest,out,h1,hF=>by
  by_cases c1:left<0
  ·have e:paF F v (w::l) left=(v,true,left):=by rw[paF,Ab c1]
   rw[e];refine⟨h1,Int.le_refl _,(fun hh=>by cases hh),fun _ h0=>absurd h0 (by show ¬(0:Int)<=left;omega),fun _ _=>⟨[],true,?_,by simp;omega⟩⟩;rw[show(left+1).toNat=0 by omega,Ck];rfl
  ·have hw:=hF w Bc left (l++rest) out om (Int.le_refl _);have hlo:=hw.lo;have hhi:=hw.hi;by_cases c2:(F w left).2.1=false
   ·have e:paF F v (w::l) left=((F w left).1,false,(F w left).2.2):=by rw[paF,Aa c1,Ab c2]
    rw[e];refine⟨hlo,hhi,fun _=>hw.no c2,(fun hh=>by cases hh),(fun hh=>by cases hh)⟩
   ·have c2':(F w left).2.1=true:=by simpa using c2
    have e:paF F v (w::l) left=paF F v l (F w left).2.2:=by rw[paF,Aa c1,Aa c2]
    rw[e];by_cases c3:(F w left).2.2<0
    ·obtain⟨L,b,e1,e2⟩:=hw.end_ c2' c3;have hm:(F w left).2.2= -1:=by omega
     have e3:paF F v l (F w left).2.2=(v,true,(F w left).2.2):=by
      cases l with
      |nil=>rfl
      |cons x l=>rw[paF,Ab c3]
     rw[e3];exact⟨hlo,hhi,(fun hh=>by cases hh),fun _ h0=>absurd (show 0<=(F w left).2.2 from h0) om,fun _ _=>⟨L,b,e1,e2⟩⟩
    ·obtain⟨L,e1,e2⟩:=hw.yes c2' om;have e1:ptS h (left+1).toNat (w::l++rest) out=ptS h ((F w left).2.2+1).toNat (l++rest) (out++L):=e1;have ih:=cJ0 v l (F w left).2.2 rest (out++L) hlo fun x hx k rest out h0 hk=>hF x (Az _ hx) k rest out h0 om;refine⟨ih.lo,by have:=ih.hi;omega,fun hb=>?_,fun hb h0=>?_,fun hb h0=>?_⟩
     ·obtain⟨a1,L2,a2,a3⟩:=ih.no hb;exact⟨a1,L++L2,by rw[e1,a2];simp,by rw[Af];push_cast;omega⟩
     ·obtain⟨L2,a2,a3⟩:=ih.yes hb h0;exact⟨L++L2,by rw[e1,a2];simp,by rw[Af];push_cast;omega⟩
     ·obtain⟨L2,b,a2,a3⟩:=ih.end_ hb h0;exact⟨L++L2,b,by rw[e1,a2];simp,by rw[Af];push_cast;omega⟩
theorem gR0:∀(f:Nat)(v:Vl)(left:Int)(rest out:List Vl),Vd h v->0<=left->left<f->PaO h left [v] rest out (paS h f v left)/\(paS h f v left).2.2<left
 |0,_,left,_,_,_,h0,h1=>by omega
 |f+1,v,left,rest,out,hv,h0,h1=>by
  have h9:¬v.k=9:=fun hk=>by
   have:=hv.1;unfold qB at this;rw[Aa om,Aa om,Aa om,Aa om,Aa om,Aa om,Aa om,Aa om]at this
   cases this
  have ef:(left+1).toNat=(left-1+1).toNat+1:=by omega
  rw[paS,paP];by_cases c1:(zU h v).kind=2\/(zU h v).kind=3\/(zU h v).kind=4\/(zU h v).kind=5
  ·have hb:badS h v=true:=by
    unfold badS;simp only[Cl,Ao];omega
   have e:ptS h (left+1).toNat ([v]++rest) out=(out++[v],false):=by
    rw[ef];show ptS h _ (v::rest) out=_;rw[xU,Ab hb]
   rw[Ab c1];refine⟨⟨by show-1<=left-1;omega,by show left-1<=left;omega,fun hh=>?_,fun hh h2=>?_,fun hh h2=>⟨[v],false,e,?_⟩⟩,by show left-1<left;omega⟩
   ·have hh:¬left-1<0:=of_decide_eq_false hh;exact⟨by show 0<=left-1;omega,[],by rw[e,Ck],by show(0:Int)+1=left-(left-1);omega⟩
   ·have hh:left-1<0:=Ag hh;have h2:0<=left-1:=h2;omega
   ·have h2:left-1<0:=h2;show(1:Int)=left+1;omega
  ·have hb:¬badS h v=true:=by
    unfold badS;simp only[Cl,Ao];omega
   rw[Aa c1];by_cases c2:(zU h v).kind=1
   ·rw[Ab c2];have hl:=(kA g v).2;have e:ptS h (left+1).toNat ([v]++rest) out=ptS h (left-1+1).toNat ((zU h v).items++rest) (out++[v]):=by
     rw[ef];show ptS h _ (v::rest) out=_;rw[xU,Aa hb,Ab c2,Ak om]
    have hit:∀w∈(zU h v).items,Vd h w:=fun w hw=>by
     obtain⟨h6,ho,eo⟩:=jV (h:=h) (v:=v) om;rw[eo]at hw c2;exact⟨pO0 g ho c2 hw,gY0 g ho hw⟩
    have ih:=cJ0 (F:=paS h f) v (zU h v).items (left-1) rest (out++[v]) om fun w hw k rest out hk0 hk=>(gR0 f w k rest out (hit w hw) hk0 om).1;have hhi:=ih.hi;refine⟨⟨ih.lo,by omega,fun hb=>?_,fun hb h2=>?_,fun hb h2=>?_⟩,by omega⟩
    ·obtain⟨a1,L,a2,a3⟩:=ih.no hb;exact⟨a1,v::L,by rw[e,a2];simp,by rw[An];push_cast;omega⟩
    ·obtain⟨L,a2,a3⟩:=ih.yes hb h2;exact⟨v::L,by rw[e,a2];simp,by rw[An];push_cast;omega⟩
    ·obtain⟨L,b,a2,a3⟩:=ih.end_ hb h2;exact⟨v::L,b,by rw[e,a2];simp,by rw[An];push_cast;omega⟩
   ·rw[Aa c2];have e:ptS h (left+1).toNat ([v]++rest) out=ptS h (left-1+1).toNat rest (out++[v]):=by
     rw[ef];show ptS h _ (v::rest) out=_;rw[xU,Aa hb,Aa c2]
    refine⟨⟨by show-1<=left-1;omega,by show left-1<=left;omega,(fun hh=>by cases hh),fun _ _=>⟨[v],e,by show(1:Int)=left-(left-1);omega⟩,fun _ h2=>⟨[v],true,?_,?_⟩⟩,by show left-1<left;omega⟩
    ·have h2:left-1<0:=h2;rw[e,show(left-1+1).toNat=0 by omega];rfl
    ·have h2:left-1<0:=h2;show(1:Int)=left+1;omega
theorem pa_key{v:Vl}(hv:Vd h v):((paS h 1001 v 1000).2.1=false->(qL h v).2=false/\(qL h v).1.length<=1000/\(qL h v).1.getD ((qL h v).1.length-1) vl0=(paS h 1001 v 1000).1)
  /\((paS h 1001 v 1000).2.1=true->(paS h 1001 v 1000).2.2<0->1000<(qL h v).1.length)/\((paS h 1001 v 1000).2.1=true->0<=(paS h 1001 v 1000).2.2->uE h v=true):=by
 have hp:=(gR0 g 1001 v 1000 [] [] hv de de).1;have e:ptS h ((1000:Int)+1).toNat ([v]++[]) []=qL h v:=rfl;refine⟨fun hb=>?_,fun hb h0=>?_,fun hb h0=>?_⟩
 ·obtain⟨a1,L,a2,a3⟩:=hp.no hb;rw[e,Dn]at a2;rw[a2];refine⟨rfl,?_,?_⟩
  ·show(L++[_]).length<=1000;rw[Af,Cg];omega
  ·show(L++[(paS h 1001 v 1000).1]).getD ((L++[_]).length-1) vl0=_;rw[Af,Cg,Nat.add_sub_cancel,Ac,Cs (Aq _),Nat.sub_self];rfl
 ·obtain⟨L,b,a2,a3⟩:=hp.end_ hb h0;rw[e,Dn]at a2;rw[a2];show 1000<L.length;omega
 ·obtain⟨L,a2,a3⟩:=hp.yes hb h0;rw[e,Dn]at a2;have a4:ptS h ((paS h 1001 v 1000).2.2+1).toNat [] L=(L,true):=by
   rw[show((paS h 1001 v 1000).2.2+1).toNat=(paS h 1001 v 1000).2.2.toNat+1 by omega];rfl
  rw[a4]at a2;rw[uE,a2];show(true&&decide ((L.length:Int)<=1000))=true;rw[Ds,Ao];omega
end
variable{md me:Bool}
theorem jT1(h:List Ob):∀(f:Nat)(v:Vl)(left:Int),0<=left-> -1<=(paS h f v left).2.2/\(paS h f v left).2.2<=left
 |0,_,left,h0=>by show(-1:Int)<= -1/\(-1:Int)<=left;omega
 |f+1,v,left,h0=>by
  have hl:∀(l:List Vl)(k:Int),-1<=k-> -1<=(paF (paS h f) v l k).2.2/\(paF (paS h f) v l k).2.2<=k:=by
   intro l;induction l with
   |nil=>intro k hk;exact⟨hk,Int.le_refl _⟩
   |cons w l ih=>
    intro k hk;rw[paF];split
    ·exact⟨hk,Int.le_refl _⟩
    ·have h1:=jT1 h f w k om;split
     ·exact h1
     ·have h2:=ih (paS h f w k).2.2 h1.1;omega
  rw[paS,paP];split
  ·show-1<=left-1/\left-1<=left;omega
  ·split
   ·have:=hl (zU h v).items (left-1) om;omega
   ·show-1<=left-1/\left-1<=left;omega
theorem wB1{h:List Ob}(g:Uh h):∀(f:Nat)(v:Vl)(left:Int),Vd h v->Vd h (paS h f v left).1
 |0,_,_,hv=>hv
 |f+1,v,left,hv=>by
  have hl:∀(l:List Vl)(k:Int),(∀w∈l,Vd h w)->Vd h (paF (paS h f) v l k).1:=by
   intro l;induction l with
   |nil=>intro k _;exact hv
   |cons w l ih=>
    intro k hw;rw[paF];split
    ·exact hv
    ·split
     ·exact wB1 g f w k (hw w Bc)
     ·exact ih _ fun x hx=>hw x (Az _ hx)
  rw[paS,paP];split
  ·exact hv
  ·split
   ·rename_i c2;refine hl _ _ fun w hw=>?_;obtain⟨h6,ho,eo⟩:=jV (h:=h) (v:=v) om;rw[eo]at hw c2;exact⟨pO0 g ho c2 hw,gY0 g ho hw⟩
   ·exact hv
theorem jA1{h:List Ob}{v:Vl}(hv:Vd h v):uB h v=true:=by
 simp only[uB,Aj,Cl,Bo,Ay];refine⟨hv.1,?_⟩;by_cases hk:v.k=6
 ·exact .inr (hv.2 hk)
 ·exact .inl hk
structure Pw(F:Vl->Int->Vl×Bool×Int)(v:Vl)(l:List Vl)(l0:Int)where
 k:Nat
 left:Int
 le:k<=l.length
 lo: -1<=left
 hi:left<=l0
 eq:paF F v (l.drop k) left=paF F v l l0
theorem gO0{l:List Vl}{k:Nat}(hk:k<l.length):l.drop k=l.getD k vl0::l.drop (k+1):=by
 rw[Ce hk,Ac,Ae hk];rfl
def Pw.next{F:Vl->Int->Vl×Bool×Int}{v:Vl}{l:List Vl}{l0:Int}(x:Pw F v l l0)(hF:∀w k,0<=k-> -1<=(F w k).2.2/\(F w k).2.2<=k)(hk:x.k<l.length)(h0:¬x.left<0)(h1:¬(F (l.getD x.k vl0) x.left).2.1=false):Pw F v l l0:=
 ⟨x.k+1,(F (l.getD x.k vl0) x.left).2.2,hk,(hF _ _ om).1,by have:=(hF (l.getD x.k vl0) x.left om).2;have:=x.hi;omega,by rw[<-x.eq,gO0 hk,paF,Aa h0,Aa h1]⟩
theorem Pw.out{F:Vl->Int->Vl×Bool×Int}{v:Vl}{l:List Vl}{l0:Int}(x:Pw F v l l0)(hk:x.k<l.length)(h0:x.left<0):paF F v l l0=(v,true,x.left):=by rw[<-x.eq,gO0 hk,paF,Ab h0]
theorem Pw.bad{F:Vl->Int->Vl×Bool×Int}{v:Vl}{l:List Vl}{l0:Int}(x:Pw F v l l0)(hk:x.k<l.length)(h0:¬x.left<0)(h1:(F (l.getD x.k vl0) x.left).2.1=false):paF F v l l0=((F (l.getD x.k vl0) x.left).1,false,(F (l.getD x.k vl0) x.left).2.2):=by rw[<-x.eq,gO0 hk,paF,Aa h0,Ab h1]
theorem Pw.fin{F:Vl->Int->Vl×Bool×Int}{v:Vl}{l:List Vl}{l0:Int}(x:Pw F v l l0)(hk:¬x.k<l.length):paF F v l l0=(v,true,x.left):=by
 rw[<-x.eq,Bd om,paF]
def paD(r:Vl×Bool×Int):D:= .tpo [.agg (vlD r.1),.v (.bool r.2.1)]
def lfO(left:Int):List DOwn:=[.box 3 [.v (.int .i64 left)]]
set_option maxHeartbeats 1000000 in
theorem part_step(h:List Ob)(v:Vl)(left:Int)(F:Vl->Int->Vl×Bool×Int)(g:Uh h)(hv:v.k=6->yU h v.r=true)(h0:0<=left)(h1:left<=1000)(hF:∀w k,0<=k-> -1<=(F w k).2.2/\(F w k).2.2<=k)(H:(zU h v).kind=1->∀w∈(zU h v).items,∀k,0<=k->k<left->FnG Tryz.prog 137 [hpD md h,.agg (vlD w),.bp 0 0] (lfO k) (paD (F w k)) (lfO (F w k).2.2)):FnG Tryz.prog 137 [hpD md h,.agg (vlD v),.bp 0 0] (lfO left) (paD (paP h F v left)) (lfO (paP h F v left).2.2):=by
 have hil:=(kA g v).2;refine jY zJ Tryz.func137 rfl rfl rfl rfl rfl rfl rfl ?_;intros;refine zK 100 ?_;refine zK 200 ?_;refine zB (zE zJ [] 300 rfl ?_);refine zF ?_;refine zQ _ (cmpObject_ok h v hv) rfl ?_;refine zF ?_;refine zC (zA (zB (zK 400 ?_)));refine zO (zB (zK 500 ?_));refine zY (fun c4=>?_) (fun c4=>?_)
 ·
  refine zL (zA (zY (fun c4x=>?_) (fun c4x=>?_)))
  ·
   refine zB (zX zJ [] mK5 900 yT kr rfl ?_);refine zf (zA (zM (zR (zP ?_))));have e:paP h F v left=_:=Ab om;rw[e];exact u11 1 rfl rfl (u0 _) ⟨⟨rfl,u0 _,rfl,trivial⟩,trivial⟩
  ·
   simp_all
 ·
  refine zK 600 ?_;refine zY (fun c5=>?_) (fun c5=>?_)
  ·
   refine zL (zA (zY (fun c5x=>?_) (fun c5x=>?_)))
   ·
    refine zB (zX zJ [] mK5 900 yT kr rfl ?_);refine zf (zA (zM (zR (zP ?_))));have e:paP h F v left=_:=Ab om;rw[e];exact u11 1 rfl rfl (u0 _) ⟨⟨rfl,u0 _,rfl,trivial⟩,trivial⟩
   ·
    simp_all
  ·
   refine zK 700 ?_;refine zY (fun c6=>?_) (fun c6=>?_)
   ·
    refine zL (zA (zY (fun c6x=>?_) (fun c6x=>?_)))
    ·
     refine zB (zX zJ [] mK5 900 yT kr rfl ?_);refine zf (zA (zM (zR (zP ?_))));have e:paP h F v left=_:=Ab om;rw[e];exact u11 1 rfl rfl (u0 _) ⟨⟨rfl,u0 _,rfl,trivial⟩,trivial⟩
    ·
     simp_all
   ·
    refine yM zJ [] 800 ?_;refine zA (zY (fun c7=>?_) (fun c7=>?_))
    ·
     refine zB (zX zJ [] mK5 900 yT kr rfl ?_);refine zf (zA (zM (zR (zP ?_))));have e:paP h F v left=_:=Ab om;rw[e];exact u11 1 rfl rfl (u0 _) ⟨⟨rfl,u0 _,rfl,trivial⟩,trivial⟩
    ·
     refine zK 1000 ?_;refine zY (fun c9=>?_) (fun c9=>?_)
     ·
      refine zK 1100 ?_;refine zO ?_;refine yC (ι:=Pw F v (zU h v).items (left-1)) [2,3,4,6,36,37] [1,2,3] 1150 (fun x=>[(38,.v (.int .i64 x.k))]) (fun x=>[(0,.box 3 [.v (.int .i64 x.left)])]) (fun x=>(zU h v).items.length-x.k) ⟨0,left-1,Ap _,by omega,Int.le_refl _,rfl⟩ ?_;refine⟨⟨⟨u21 rfl,yG⟩,⟨⟨rfl,u21 rfl,rfl,trivial⟩,yE⟩,rfl,rfl⟩,fun x=>?_⟩;have hk:=x.le;have hlo:=x.lo;have hhi:=x.hi;refine zK 1200 ?_;refine zB (zW rfl (fun c11=>?_) (fun c11=>?_))
      ·have c11:x.k<(zU h v).items.length:=by simpa using c11
       refine zL (zA (zB (zO (zK 1300 ?_))));refine zB ?_;refine yK [2,3,4,6,10,36,37,38] [0,1,2,3,1202] 1310 [] [(1202,.box 29 (vlD ((zU h v).items.getD x.k vl0)))] ?_;refine⟨⟨yG,⟨⟨rfl,SubL.same rfl⟩,yE⟩,rfl,rfl⟩,?_⟩;refine zK 1400 ?_;refine zW rfl (fun c13=>?_) (fun c13=>?_)
       ·have c13:x.left<0:=by simpa using c13
        refine zK 1500 ?_;refine zM (zP (zR (zP (yS (zR (zR (zP ?_)))))));have e:paP h F v left=_:=(Aa om).trans ((Ab c9).trans (x.out c11 c13));rw[e];exact u11 1 rfl rfl (u0 _) ⟨⟨rfl,u0 _,rfl,trivial⟩,trivial⟩
       ·have c13:¬x.left<0:=by simpa using c13
        have hFx:=hF ((zU h v).items.getD x.k vl0) x.left om;refine zL (zA ?_);refine zB (zE zJ [1051] 1600 rfl ?_);refine zF ?_;refine yP _ _ (H c9 ((zU h v).items.getD x.k vl0) (wY0 c11) x.left om (by have:=x.hi;omega)) rfl ?_;refine zf (zA ?_);refine yK [2,3,4,6,11,36,37,38] [1,2,3,1407] 1610 [(12,.v (.bool (F ((zU h v).items.getD x.k vl0) x.left).2.1))] [(0,.box 3 [.v (.int .i64 (F ((zU h v).items.getD x.k vl0) x.left).2.2)]),(1407,.box 29 (vlD (F ((zU h v).items.getD x.k vl0) x.left).1))] ?_;refine⟨⟨yG,⟨⟨rfl,u0 _,rfl,trivial⟩,⟨rfl,SubL.same rfl⟩,yE⟩,rfl,rfl⟩,?_⟩;refine zK 1700 ?_;refine zW rfl (fun c16=>?_) (fun c16=>?_)
        ·have c16:(F ((zU h v).items.getD x.k vl0) x.left).2.1=false:=by simpa using c16
         refine zK 1800 ?_;refine zM (zR (zP (yS (zR (zR (zP ?_))))));have e:paP h F v left=_:=(Aa om).trans ((Ab c9).trans (x.bad c11 c13 c16));rw[e];exact u11 1 rfl rfl (u0 _) ⟨⟨rfl,u0 _,rfl,trivial⟩,trivial⟩
        ·have c16:¬(F ((zU h v).items.getD x.k vl0) x.left).2.1=false:=by simpa using c16
         refine zL (zN (zA (yM zJ [] 1900 ?_)));exact zS (x.next hF c11 c13 c16) ⟨⟨u21 (by show(x.k:Int)+1=((x.k+1:Nat):Int);push_cast;rfl),yG⟩,⟨⟨rfl,u0 _,rfl,trivial⟩,yE⟩,rfl,rfl⟩ (by show(zU h v).items.length-(x.k+1)<(zU h v).items.length-x.k;omega)
      ·have c11:¬x.k<(zU h v).items.length:=by simpa using c11
       refine yD (yA (yB (zZ (zN (zA (zK 2000 ?_))))));refine zM ?_;have e:paP h F v left=_:=(Aa om).trans ((Ab c9).trans (x.fin c11));rw[e];exact u11 1 rfl rfl (u0 _) ⟨⟨rfl,u0 _,rfl,trivial⟩,trivial⟩
     ·
      refine zL (zN (zA (zK 2000 ?_)));refine zM ?_;have e:paP h F v left=_:=(Aa om).trans (Aa c9);rw[e];exact u11 1 rfl rfl (u0 _) ⟨⟨rfl,u0 _,rfl,trivial⟩,trivial⟩
theorem jS1{h:List Ob}(g:Uh h):∀(f:Nat)(v:Vl)(left:Int),Rv h v->0<=left->left<f->left<=1000->FnG Tryz.prog 137 [hpD md h,.agg (vlD v),.bp 0 0] (lfO left) (paD (paS h f v left)) (lfO (paS h f v left).2.2)
 |0,_,left,_,h0,h1,_=>by omega
 | f+1,v,left,hv,h0,h1,h2=>part_step h v left (paS h f) g hv h0 h2 (fun w k hk=>jT1 h f w k hk) fun hk1 w hw k hk hkl=>jS1 g f w k (by
   obtain⟨h6,ho,eo⟩:=jV (h:=h) (v:=v) om;rw[eo]at hw;exact gY0 g ho hw) hk om om
def kqB:ByteArray:=⟨#[39]⟩
def kmB:ByteArray:=⟨#[39,32,99,97,110,110,111,116,32,98,101,32,97,32,107,101,121]⟩
def keyR(h:List Ob)(v:Vl):St:=if(paS h 1001 v 1000).2.1=false then raS 32 (kqB++(yI h (clA h (paS h 1001 v 1000).1)).name++kmB)else if(paS h 1001 v 1000).2.2<0 then raS 42 tooB else st0
theorem kbsz(a:Array UInt8):(⟨a⟩:ByteArray).size=a.size:=rfl
theorem zG0{h:List Ob}(g:Uh h){v:Vl}(hv:Vd h v):
  ((paS h 1001 v 1000).2.1=false/\(qL h v).2=false/\(qL h v).1.length<=1000/\0<(qL h v).1.length/\(qL h v).1.getD (((qL h v).1.length:Int)-1).toNat vl0=(paS h 1001 v 1000).1/\keyR h v=raS 32 (kqB++(yI h (clA h (paS h 1001 v 1000).1)).name++kmB))
  \/((paS h 1001 v 1000).2.1=true/\(paS h 1001 v 1000).2.2<0/\1000<(qL h v).1.length/\keyR h v=raS 42 tooB)
  \/((paS h 1001 v 1000).2.1=true/\0<=(paS h 1001 v 1000).2.2/\(qL h v).2=true/\(qL h v).1.length<=1000/\uE h v=true/\keyR h v=st0):=by
 obtain⟨a,b,c⟩:=pa_key g hv;by_cases h1:(paS h 1001 v 1000).2.1=false
 ·obtain⟨a1,a2,a3⟩:=a h1;refine .inl ⟨h1,a1,a2,?_,?_,Ab h1⟩
  ·have hp:=(gR0 g 1001 v 1000 [] [] hv de de).1;obtain⟨_,L,e,_⟩:=hp.no h1;have e:qL h v=_:=e;rw[e];show 0<([]++L++[_]).length;rw[Af];exact Nat.succ_pos _
  ·rw[show(((qL h v).1.length:Int)-1).toNat=(qL h v).1.length-1 by omega];exact a3
 ·have h1':(paS h 1001 v 1000).2.1=true:=by simpa using h1
  by_cases h2:(paS h 1001 v 1000).2.2<0
  ·exact .inr (.inl ⟨h1',h2,b h1' h2,(Aa h1).trans (Ab h2)⟩)
  ·have hk:=c h1' om;have hk2:=hk;simp only[uE,Aj,Ao]at hk2;exact .inr (.inr ⟨h1',by omega,hk2.1,by omega,hk,(Aa h1).trans (Aa h2)⟩)
theorem vP1{P:Program}{E:Pn}{K:DS->Prop}{p:Prop}{r:Out}(hr:r.sat P E K)(hp:p:=by first|(simp only[Db,kbsz,Ch,An,Aw];omega)|exact Ew):(Out.need p r).sat P E K:=⟨hp,hr⟩
theorem cmpKey_ok(h:List Ob)(v:Vl)(hh:HpIn h)(g:Uh h)(hv:Vd h v):Fx 88 [hpD md h,.agg (vlD v)] (.agg (stD (keyR h v))):=by
 have hb:=wB1 g 1001 v 1000 hv;have hcf:=uV0 g (jA1 hb);have hnm:=(hh.at (clA h (paS h 1001 v 1000).1)).nm;refine yF zJ Tryz.func88 rfl rfl rfl rfl rfl rfl ?_;intros;refine zK 100 ?_;refine zK 200 ?_;refine zB ?_;refine zB (zE zJ [1011] 300 rfl ?_);refine zF ?_;refine yP _ _ (jS1 g 1001 v 1000 hv.2 de de de) rfl ?_;refine zf (zA ?_);refine yK [2,4,5,6] [0,2,100,206] 310 [(7,.v (.bool (paS h 1001 v 1000).2.1))] [(100,.box 3 [.v (.int .i64 (paS h 1001 v 1000).2.2)]),(206,.box 29 (vlD (paS h 1001 v 1000).1))] ?_;refine⟨⟨yG,⟨⟨rfl,u0 _,rfl,trivial⟩,⟨rfl,SubL.same rfl⟩,yE⟩,rfl,rfl⟩,?_⟩;refine zK 400 ?_;refine zW rfl (fun c3=>?_) (fun c3=>?_)
 ·have c3:(paS h 1001 v 1000).2.1=false:=by simpa using c3
  refine zB (zE zJ [] 500 rfl ?_);repeat(first|refine zH ?_|refine vP1 ?_)
  refine zQ _ (gC h (paS h 1001 v 1000).1 g hcf) rfl ?_;repeat(first|refine zH ?_|refine vP1 ?_)
  refine zQ _ (zX0 _ _) rfl ?_;repeat(first|refine zH ?_|refine vP1 ?_)
  refine zC (zA (zM (zP ?_)));rw[show keyR h v=_ from Ab c3];exact u4 rfl (u6 _)
 ·have c3:¬(paS h 1001 v 1000).2.1=false:=by simpa using c3
  refine zL (zA (zB (zK 600 ?_)));refine zY (fun c5=>?_) (fun c5=>?_)
  ·
   refine zB (zE zJ [] 700 rfl ?_);refine zF ?_;refine zQ _ (zX0 _ _) rfl ?_;refine zf (zA (zM (zP ?_)));rw[show keyR h v=_ from(Aa c3).trans (Ab c5)];exact u4 rfl (u6 _)
  ·
   refine zL (zA (zK 800 ?_));refine zM ?_;rw[show keyR h v=_ from(Aa c3).trans (Aa om)];exact u4 rfl (by repeat(first|exact trivial|exact u6 _|exact u12 rfl|refine u20 ?_|refine⟨?_,?_⟩))
theorem vO1{P:Program}{E:Pn}{K:DS->Prop}{p:Prop}{r:Out}(hr:r.sat P E K)(hp:p:=by first|exact⟨by omega,by omega⟩|first|(simp only[Db,kbsz,Ch,An,Aw];omega)|exact Ew):(Out.need p r).sat P E K:=⟨hp,hr⟩
theorem KeyD_ok(h:List Ob)(v:Vl)(hh:HpIn h)(g:Uh h)(hv:Vd h v):Fx 51 [hpD md h,.agg (vlD v)] (.agg (stD (keyR h v))):=by
 have hb:=wB1 g 1001 v 1000 hv;have hcf:=uV0 g (jA1 hb);have hnm:=(hh.at (clA h (paS h 1001 v 1000).1)).nm;have hc:=zG0 g hv;refine yF zJ Tryz.func51 rfl rfl rfl rfl rfl rfl ?_;intros;refine zK 100 ?_;refine zB (zE zJ [] 200 rfl ?_);refine zF ?_;refine zQ _ (qP0 h v hh) rfl ?_;refine zF ?_;refine zC (zA (zB (zO (zK 300 ?_))));refine zW rfl (fun c2=>?_) (fun c2=>?_)
 ·have c2:(qL h v).2=false/\(qL h v).1.length<=1000:=by simp at c2;exact⟨c2.1,by omega⟩
  obtain⟨k1,k2,k3,k4,k5,k6⟩:(paS h 1001 v 1000).2.1=false/\(qL h v).2=false/\(qL h v).1.length<=1000/\0<(qL h v).1.length/\(qL h v).1.getD (((qL h v).1.length:Int)-1).toNat vl0=(paS h 1001 v 1000).1/\keyR h v=_:=by
   rcases hc with hc|hc|hc
   ·exact hc
   ·omega
   ·rw[c2.1]at hc;exact absurd hc.2.2.1 de
  refine zB (zX zJ [] [[],[],[],[2],[2,3],[1,2,3,4],[1,2,3,4,5],(rgN 7),(rgN 8),(rgN 9),(rgN 10),(rgN 11)] 400 yT kr rfl ?_);repeat(first|refine zH ?_|refine vO1 ?_)
  refine zQ _ (by rw[k5];exact kM h (paS h 1001 v 1000).1 g hcf) rfl ?_;repeat(first|refine zH ?_|refine vO1 ?_)
  refine zQ _ (kY _ _) rfl ?_;repeat(first|refine zH ?_|refine vO1 ?_)
  refine zC (zA (zM (zR (zP ?_))));rw[k6];exact u4 rfl (u6 _)
 ·have c2:¬((qL h v).2=false/\(qL h v).1.length<=1000):=by simp at c2;intro hq;have:=c2 hq.1;omega
  refine zK 500 ?_;refine zY (fun c4=>?_) (fun c4=>?_)
  ·
   refine zB (zE zJ [] 600 rfl ?_);refine zF ?_;refine zQ _ (kY _ _) rfl ?_;refine zf (zA (zM (zR (zP ?_))));rcases hc with hc|hc|hc
   ·exact absurd ⟨hc.2.1,hc.2.2.1⟩ c2
   ·rw[hc.2.2.2];exact u4 rfl (u6 _)
   ·omega
  ·
   refine zL (zN (zA (zK 700 ?_)));refine zM ?_;rcases hc with hc|hc|hc
   ·exact absurd ⟨hc.2.1,hc.2.2.1⟩ c2
   ·omega
   ·rw[hc.2.2.2.2.2];exact u4 rfl (by repeat(first|exact trivial|exact u6 _|exact u12 rfl|refine u20 ?_|refine⟨?_,?_⟩))
theorem opKey_ok(h:List Ob)(v:Vl)(hh:HpIn h)(g:Uh h)(hv:Vd h v):Fx 49 [hpD md h,.agg (vlD v)] (.tup [.agg (stD (keyR h v)),.v (.bool (decide ((keyR h v).k=0)))]):=by
 refine yF zJ Tryz.func49 rfl rfl rfl rfl rfl rfl ?_;intros;refine zK 100 ?_;refine zB (zE zJ [] 200 rfl ?_);refine zF ?_;refine zQ _ (cmpKey_ok h v hh g hv) rfl ?_;refine zf (zA ?_);refine zB (zX zJ [] [[],[],[1],[1,2],[0],(rgN 5)] 300 yT kr rfl ?_);refine zf (zA (zM ?_));exact u4 rfl (u6 _)
end Go.Proofs.YtpmjepoceakikaaGreatDoor
