/-Part 25 of the proof. -/
import Derived.Test.YtammfbdgjnkolaaGreatDoorM23
import Derived.Test.YtammfbdgjnkolaaGreatDoorM24
namespace Go.Proofs.YtammfbdgjnkolaaGreatDoor
open Go.RowKit
variable{md me:Bool}
theorem bU0(b1:Bool)(n1:Nat)(b2:Bool)(n2:Nat):ZI (plB b1 n1 b2 n2).1 (plB b1 n1 b2 n2).2=ZI b1 n1+ZI b2 n2:=by
 unfold plB;by_cases h:b1=b2
 ·subst h;rw[Ab rfl]
  cases b1<;>unfold ZI<;>simp<;>omega
 ·rw[Aa h];by_cases h2:n2<=n1
  ·rw[Ab h2]
   cases b1<;>cases b2<;>unfold ZI<;>simp at* <;>omega
  ·rw[Aa h2]
   cases b1<;>cases b2<;>unfold ZI<;>simp at* <;>omega
theorem plB_le(b1:Bool)(n1:Nat)(b2:Bool)(n2:Nat):(plB b1 n1 b2 n2).2<=n1+n2:=by
 unfold plB;split
 ·exact Ar _
 ·split
  ·show n1-n2<=n1+n2;omega
  ·show n2-n1<=n1+n2;omega
theorem dig_addL{x y k:Nat}(hx:(dig x).length<=k)(hy:(dig y).length<=k):(dig (x+y)).length<=k+1:=by
 have h1:=Bt (pX x) (Bb de hx);have h2:=Bt (pX y) (Bb de hy);refine qB ?_;rw[By];generalize 65536^k=B at*;omega
theorem uS0{x y k m:Nat}(hx:(dig x).length<=k)(hy:(dig y).length<=m):(dig (x*y)).length<=k+m:=by
 have h1:=Bt (pX x) (Bb de hx);have h2:=Bt (pX y) (Bb de hy);refine qB ?_;rw[Eo];exact Nat.mul_lt_mul'' h1 h2
theorem zX0{b1 b2:Bool}{x y k:Nat}(hx:(dig x).length<=k)(hy:(dig y).length<=k):(dig (plB b1 x b2 y).2).length<=k+1:=At (yT (plB_le _ _ _ _)) (dig_addL hx hy)
theorem bK{l:List Nat}(hg:Lg l)(h:l.length<=40):(dig (VL l)).length<=80:=by
 refine qB ?_;have h1:=Bt (L_lt hg) (Bb de h);rw[show(65536:Nat)^80=(65536^2)^40 from Nat.pow_mul 65536 2 40];exact h1
theorem dm_Td{s t:Bool}{x y:Nat}(h:(s !=t)=true/\0<((dig (x%y)).length:Int)):dmQ s t x y=x/y+1/\dmR s t x y=y-x%y:=by
 have h1:s≠t:=by simpa using h.1
 have h2:0<x%y:=by have:=bJ (n:=x%y);rw[Bf h.2]at this;exact Ag this.symm
 exact⟨by rw[dmQ,Ab ⟨h1,h2⟩],by rw[dmR,Ab ⟨h1,h2⟩]⟩
theorem dm_Fd{s t:Bool}{x y:Nat}(h:((s !=t)&&decide (0<((dig (x%y)).length:Int)))=false):dmQ s t x y=x/y/\dmR s t x y=x%y:=by
 have h1:¬(s≠t/\0<x%y):=by
  rintro⟨h1,h2⟩;have h3:(s !=t)=true:=by simpa using h1
  rw[h3,Dm,bJ,Ay]at h;exact h h2
 exact⟨by rw[dmQ,Aa h1],by rw[dmR,Aa h1]⟩
theorem wR(b1 b2:Bool)(n1 n2:Nat)(h1:(dig n1).length<=1000000)(h2:(dig n2).length<=1000000):Fx 82 [rD b1 n1,rD b2 n2] (rD ((b1 !=b2)&&decide (0<n1*n2)) (n1*n2)):=by
 refine yD zJ Tryz.func82 rfl rfl rfl rfl rfl rfl ?_;intros;refine zK 100 ?_;refine zB (zE zJ [] 200 rfl ?_);refine zF ?_;refine zQ _ (Times3_ok _ _ ao ao) rfl ?_;refine zF ?_;refine zC (zA (zK 300 ?_));refine zL ?_;exact u4 rfl (u20 ⟨u7 (by rw[bJ]),u6 _,trivial⟩)
theorem IntFloor_ok(b1 b2:Bool)(n1 n2:Nat)(h1:(dig n1).length<=1000000)(h2:(dig n2).length<=1000000)(h0:0<n2):Fx 142 [rD b1 n1,rD b2 n2] (.tup [rD (b1 !=b2) (dmQ b1 b2 n1 n2),rD b2 (dmR b1 b2 n1 n2)]):=by
 have hq:(dig (n1/n2)).length<=1000000:=At (yT (Er _ _)) h1;refine yD zJ Tryz.func142 rfl rfl rfl rfl rfl rfl ?_;intros;refine zK 100 ?_;refine zB (zE zJ [] 200 rfl ?_);refine zF ?_;refine zQ _ (Divide3_ok n1 n2 h1 h2 h0) rfl ?_;refine zF ?_;refine zC (zA (zB (zK 300 ?_)));refine zZ (fun c2=>?_) (fun c2=>?_)
 ·
  refine zX zJ [] [[],[],[0,1],[],[3],[],(rgN 6),(rgN 7),(rgN 8)] 400 yP kr rfl ?_;refine zF ?_;refine zQ _ (dC 1 om om) rfl ?_;refine zF ?_;refine zQ _ (vC0 _ 1 om (by rw[xK0];decide)) rfl ?_;refine zF ?_;refine zQ _ (xT _ _ (Dn (Cx _ h0)) om) rfl ?_;refine zf (zA ?_);refine zB (zX zJ [] mK18 500 yP kr rfl ?_);refine zf (zA (zL ?_));obtain⟨hqe,hre⟩:=dm_Td c2;exact u4 rfl (u9 (by rw[hqe,hre];rfl))
 ·
  refine zM (zA ?_);refine zB (zX zJ [] mK18 500 yP kr rfl ?_);refine zf (zA (zL ?_));obtain⟨hqe,hre⟩:=dm_Fd c2;exact u4 rfl (u9 (by rw[hqe,hre];rfl))
structure RgN where
 sa:Bool
 na:Nat
 sb:Bool
 nb:Nat
 sc:Bool
 nc:Nat
def RgN.g(x:RgN):Bool×Nat:=plB x.sb x.nb (!x.sa&&decide (0<x.na)) x.na
def RgN.q(x:RgN):Bool×Nat:=(x.g.1 !=x.sc,dmQ x.g.1 x.sc x.g.2 x.nc)
def RgN.r(x:RgN):Nat:=dmR x.g.1 x.sc x.g.2 x.nc
def RgN.q2(x:RgN):Bool×Nat:=if 0<x.r then plB x.q.1 x.q.2 false 1 else x.q
def RgN.cnt(x:RgN):Bool×Nat:=if x.q2.1=true then(false,0)else x.q2
def RgN.p(x:RgN):Bool×Nat:=plB x.cnt.1 x.cnt.2 true 1
def RgN.t(x:RgN):Bool×Nat:=((x.sc !=x.p.1)&&decide (0<x.nc*x.p.2),x.nc*x.p.2)
def RgN.last(x:RgN):Bool×Nat:=plB x.sa x.na x.t.1 x.t.2
def RgN.D(x:RgN):D:= .agg [.v (.bool x.sa),qK x.na,.v (.bool x.sc),qK x.nc,.v (.bool x.cnt.1),qK x.cnt.2,.v (.bool x.last.1),qK x.last.2]
def rgL(sa sb sc:Bool)(la lb lc:List Nat):List D:=[.v (.bool sa),usD la,.v (.bool sb),usD lb,.v (.bool sc),usD lc]
theorem RgN.sizes(x:RgN){k:Nat}(ha:(dig x.na).length<=k)(hb:(dig x.nb).length<=k)(hc:(dig x.nc).length<=k)(h0:0<x.nc)(h1:1<=k):(dig x.g.2).length<=k+1/\(dig x.q.2).length<=k+1/\(dig x.r).length<=k/\(dig x.q2.2).length<=k+2/\(dig x.cnt.2).length<=k+2/\(dig x.p.2).length<=k+3/\(dig x.t.2).length<=k+(k+3):=by
 have g:=zX0 (b1:=x.sb) (b2:=(!x.sa&&decide (0<x.na))) hb ha;have q:(dig x.q.2).length<=k+1:=At (yT (dO0 h0)) g;have r:(dig x.r).length<=k:=At (yT (yQ1 h0)) hc;have q2:(dig x.q2.2).length<=k+2:=by
  unfold RgN.q2;split
  ·exact zX0 q (by rw[xK0];omega)
  ·omega
 have c:(dig x.cnt.2).length<=k+2:=by
  unfold RgN.cnt;split
  ·rw[jS];exact Aq _
  ·exact q2
 have p:(dig x.p.2).length<=k+3:=zX0 c (by rw[xK0];omega);exact⟨g,q,r,q2,c,p,uS0 hc p⟩
theorem cC(n:Nat):(0<((dig n).length:Int))↔0<n:=by
 have:=bJ (n:=n);rw[Bool.eq_iff_iff,Ap,Ap]at this;exact this
theorem RgN.q2_T{x:RgN}(h:0<x.r):x.q2=plB x.q.1 x.q.2 false 1:=Ab h
theorem RgN.q2_F{x:RgN}(h:¬0<x.r):x.q2=x.q:=Aa h
theorem RgN.cnt_T{x:RgN}(h:x.q2.1=true):x.cnt=(false,0):=Ab h
theorem RgN.cnt_F{x:RgN}(h:¬x.q2.1=true):x.cnt=x.q2:=Aa h
theorem RangeOf_ok(sa sb sc:Bool)(la lb lc:List Nat)(hla:la.length<=40)(hlb:lb.length<=40)(hlc:lc.length<=40)(ga:Lg la)(gb:Lg lb)(gc:Lg lc)(h0:0<VL lc):Fx 81 [.agg (rgL sa sb sc la lb lc)] (RgN.D (RgN.mk sa (VL la) sb (VL lb) sc (VL lc))):=by
 have da:=bK ga hla;have db:=bK gb hlb;have dc:=bK gc hlc;obtain⟨z1,z2,z3,z4,z5,z6,z7⟩:=RgN.sizes (RgN.mk sa (VL la) sb (VL lb) sc (VL lc)) (k:=80) da db dc h0 de;have hrp:=cC (RgN.r (RgN.mk sa (VL la) sb (VL lb) sc (VL lc)));refine yD zJ Tryz.func81 rfl rfl rfl rfl rfl rfl ?_;intros;refine zK 100 ?_;refine zB (zX zJ [] [[],[0],[0,1],[],[3],(rgN 5),(rgN 6),[],(rgN 8)] 200 yP kr rfl ?_);refine zF ?_;refine zQ _ (xU sa la ga om) rfl ?_;refine zF ?_;refine zQ _ (xU sc lc gc om) rfl ?_;refine zf (zA ?_);refine zB (zX zJ [] [[],[0],[0,1],[],[3],(rgN 5),(rgN 6),[],(rgN 8)] 300 yP kr rfl ?_);refine zF ?_;refine zQ _ (xU sb lb gb om) rfl ?_;refine zF ?_;refine zQ _ (IntMinus_ok sa (VL la)) rfl ?_;refine zF ?_;refine zQ _ (jD sb _ (VL lb) (VL la) om om) rfl ?_;refine zf (zA ?_);refine zB (zE zJ [] 400 rfl ?_);refine zF ?_;refine zQ _ (IntFloor_ok _ sc _ (VL lc) (At z1 de) om h0) rfl ?_;refine zF ?_;refine zC (zA (zB (zK 500 ?_)));refine zZ (fun c4=>?_) (fun c4=>?_)
 ·
  refine zX zJ [] [[],[],[0,1],[0,1,2]] 600 yP kr rfl ?_;refine zF ?_;refine zQ _ (uC 1 de de) rfl ?_;refine zF ?_;refine zQ _ (jD _ false _ 1 (At z2 de) (by rw[xK0];decide)) rfl ?_;refine zf (zA (zB ?_));refine yL [2,3,5] [1,107,307] 610 [] [(307,.box 66 [.v (.bool (RgN.q2 (RgN.mk sa (VL la) sb (VL lb) sc (VL lc))).1),qK (RgN.q2 (RgN.mk sa (VL la) sb (VL lb) sc (VL lc))).2])] ?_;refine⟨⟨yG,⟨⟨rfl,by first|exact Sub.of_eq (by rw[RgN.q2_T (hrp.1 c4)];rfl)|exact Sub.of_eq (by rw[RgN.q2_F (fun h=>absurd (hrp.2 h) (by first|exact c4|exact Int.not_lt.2 c4))];rfl),rfl,by first|exact Sub.of_eq (by rw[RgN.q2_T (hrp.1 c4)];rfl)|exact Sub.of_eq (by rw[RgN.q2_F (fun h=>absurd (hrp.2 h) (by first|exact c4|exact Int.not_lt.2 c4))];rfl),rfl,trivial⟩,yF⟩,rfl,rfl⟩,?_⟩;refine zK 700 ?_;refine zZ (fun c6=>?_) (fun c6=>?_)
  ·
   refine yM zJ [] 800 ?_;refine zA ?_;refine yL [2,3] [1,107] 810 [] [(107,.box 72 [.v (.bool sa),qK (VL la),.v (.bool sc),qK (VL lc),.v (.bool (RgN.cnt (RgN.mk sa (VL la) sb (VL lb) sc (VL lc))).1),qK (RgN.cnt (RgN.mk sa (VL la) sb (VL lb) sc (VL lc))).2,.v (.bool false),.v (.slice none 0 0)])] ?_;refine⟨⟨yG,⟨⟨rfl,u0 _,rfl,u0 _,rfl,u0 _,rfl,u0 _,rfl,by first|(rw[RgN.cnt_T (by simpa using c6)];exact Sub.nil0)|(rw[RgN.cnt_T (by simpa using c6)];exact u0 _)|(rw[RgN.cnt_F (by simpa using c6)];exact u0 _),rfl,by first|(rw[RgN.cnt_T (by simpa using c6)];exact Sub.nil0)|(rw[RgN.cnt_T (by simpa using c6)];exact u0 _)|(rw[RgN.cnt_F (by simpa using c6)];exact u0 _),rfl,u0 _,rfl,u0 _,rfl,trivial⟩,yF⟩,rfl,rfl⟩,?_⟩;refine zB (zX zJ [] mK4 900 yP kr rfl ?_);refine zF ?_;refine zQ _ (uC (-1) de de) rfl ?_;refine zF ?_;refine zQ _ (jD _ true _ 1 (At z5 de) (by rw[xK0];decide)) rfl ?_;refine zF ?_;refine zQ _ (wR sc _ (VL lc) _ om (At z6 de)) rfl ?_;refine zF ?_;refine zQ _ (jD sa _ (VL la) _ om (At z7 de)) rfl ?_;refine zF ?_;refine zC (zA (zK 1000 ?_));refine zL ?_;exact u4 rfl (u9 rfl)
  ·
   refine zM (zA ?_);refine yL [2,3] [1,107] 710 [] [(107,.box 72 [.v (.bool sa),qK (VL la),.v (.bool sc),qK (VL lc),.v (.bool (RgN.cnt (RgN.mk sa (VL la) sb (VL lb) sc (VL lc))).1),qK (RgN.cnt (RgN.mk sa (VL la) sb (VL lb) sc (VL lc))).2,.v (.bool false),.v (.slice none 0 0)])] ?_;refine⟨⟨yG,⟨⟨rfl,u0 _,rfl,u0 _,rfl,u0 _,rfl,u0 _,rfl,by first|(rw[RgN.cnt_T (by simpa using c6)];exact Sub.nil0)|(rw[RgN.cnt_T (by simpa using c6)];exact u0 _)|(rw[RgN.cnt_F (by simpa using c6)];exact u0 _),rfl,by first|(rw[RgN.cnt_T (by simpa using c6)];exact Sub.nil0)|(rw[RgN.cnt_T (by simpa using c6)];exact u0 _)|(rw[RgN.cnt_F (by simpa using c6)];exact u0 _),rfl,u0 _,rfl,u0 _,rfl,trivial⟩,yF⟩,rfl,rfl⟩,?_⟩;refine zB (zX zJ [] mK4 900 yP kr rfl ?_);refine zF ?_;refine zQ _ (uC (-1) de de) rfl ?_;refine zF ?_;refine zQ _ (jD _ true _ 1 (At z5 de) (by rw[xK0];decide)) rfl ?_;refine zF ?_;refine zQ _ (wR sc _ (VL lc) _ om (At z6 de)) rfl ?_;refine zF ?_;refine zQ _ (jD sa _ (VL la) _ om (At z7 de)) rfl ?_;refine zF ?_;refine zC (zA (zK 1000 ?_));refine zL ?_;exact u4 rfl (u9 rfl)
 ·
  refine zM (zA (zB ?_));refine yL [2,3,5] [1,107,307] 510 [] [(307,.box 66 [.v (.bool (RgN.q2 (RgN.mk sa (VL la) sb (VL lb) sc (VL lc))).1),qK (RgN.q2 (RgN.mk sa (VL la) sb (VL lb) sc (VL lc))).2])] ?_;refine⟨⟨yG,⟨⟨rfl,by first|exact Sub.of_eq (by rw[RgN.q2_T (hrp.1 c4)];rfl)|exact Sub.of_eq (by rw[RgN.q2_F (fun h=>absurd (hrp.2 h) (by first|exact c4|exact Int.not_lt.2 c4))];rfl),rfl,by first|exact Sub.of_eq (by rw[RgN.q2_T (hrp.1 c4)];rfl)|exact Sub.of_eq (by rw[RgN.q2_F (fun h=>absurd (hrp.2 h) (by first|exact c4|exact Int.not_lt.2 c4))];rfl),rfl,trivial⟩,yF⟩,rfl,rfl⟩,?_⟩;refine zK 700 ?_;refine zZ (fun c6=>?_) (fun c6=>?_)
  ·
   refine yM zJ [] 800 ?_;refine zA ?_;refine yL [2,3] [1,107] 810 [] [(107,.box 72 [.v (.bool sa),qK (VL la),.v (.bool sc),qK (VL lc),.v (.bool (RgN.cnt (RgN.mk sa (VL la) sb (VL lb) sc (VL lc))).1),qK (RgN.cnt (RgN.mk sa (VL la) sb (VL lb) sc (VL lc))).2,.v (.bool false),.v (.slice none 0 0)])] ?_;refine⟨⟨yG,⟨⟨rfl,u0 _,rfl,u0 _,rfl,u0 _,rfl,u0 _,rfl,by first|(rw[RgN.cnt_T (by simpa using c6)];exact Sub.nil0)|(rw[RgN.cnt_T (by simpa using c6)];exact u0 _)|(rw[RgN.cnt_F (by simpa using c6)];exact u0 _),rfl,by first|(rw[RgN.cnt_T (by simpa using c6)];exact Sub.nil0)|(rw[RgN.cnt_T (by simpa using c6)];exact u0 _)|(rw[RgN.cnt_F (by simpa using c6)];exact u0 _),rfl,u0 _,rfl,u0 _,rfl,trivial⟩,yF⟩,rfl,rfl⟩,?_⟩;refine zB (zX zJ [] mK4 900 yP kr rfl ?_);refine zF ?_;refine zQ _ (uC (-1) de de) rfl ?_;refine zF ?_;refine zQ _ (jD _ true _ 1 (At z5 de) (by rw[xK0];decide)) rfl ?_;refine zF ?_;refine zQ _ (wR sc _ (VL lc) _ om (At z6 de)) rfl ?_;refine zF ?_;refine zQ _ (jD sa _ (VL la) _ om (At z7 de)) rfl ?_;refine zF ?_;refine zC (zA (zK 1000 ?_));refine zL ?_;exact u4 rfl (u9 rfl)
  ·
   refine zM (zA ?_);refine yL [2,3] [1,107] 710 [] [(107,.box 72 [.v (.bool sa),qK (VL la),.v (.bool sc),qK (VL lc),.v (.bool (RgN.cnt (RgN.mk sa (VL la) sb (VL lb) sc (VL lc))).1),qK (RgN.cnt (RgN.mk sa (VL la) sb (VL lb) sc (VL lc))).2,.v (.bool false),.v (.slice none 0 0)])] ?_;refine⟨⟨yG,⟨⟨rfl,u0 _,rfl,u0 _,rfl,u0 _,rfl,u0 _,rfl,by first|(rw[RgN.cnt_T (by simpa using c6)];exact Sub.nil0)|(rw[RgN.cnt_T (by simpa using c6)];exact u0 _)|(rw[RgN.cnt_F (by simpa using c6)];exact u0 _),rfl,by first|(rw[RgN.cnt_T (by simpa using c6)];exact Sub.nil0)|(rw[RgN.cnt_T (by simpa using c6)];exact u0 _)|(rw[RgN.cnt_F (by simpa using c6)];exact u0 _),rfl,u0 _,rfl,u0 _,rfl,trivial⟩,yF⟩,rfl,rfl⟩,?_⟩;refine zB (zX zJ [] mK4 900 yP kr rfl ?_);refine zF ?_;refine zQ _ (uC (-1) de de) rfl ?_;refine zF ?_;refine zQ _ (jD _ true _ 1 (At z5 de) (by rw[xK0];decide)) rfl ?_;refine zF ?_;refine zQ _ (wR sc _ (VL lc) _ om (At z6 de)) rfl ?_;refine zF ?_;refine zQ _ (jD sa _ (VL la) _ om (At z7 de)) rfl ?_;refine zF ?_;refine zC (zA (zK 1000 ?_));refine zL ?_;exact u4 rfl (u9 rfl)
theorem dZ0{C q r K:Int}(hC:0<C)(h0:0<=r)(h1:r<C)(hK:K=if 0<r then q+1 else q):C*(K-1)<r+C*q/\r+C*q<=C*K:=by
 subst hK;split
 ·rw[Int.add_sub_cancel,Int.mul_add,Int.mul_one];omega
 ·rw[Int.mul_sub,Int.mul_one];omega
theorem ceil_div{C G K:Int}(hC:0<C)(h1:C*(K-1)<G)(h2:G<=C*K):Int.fdiv (G+(C-1)) C=K:=by
 rw[Int.mul_sub,Int.mul_one]at h1;exact bW (r:=G+(C-1)-C*K) om (Or.inl ⟨hC,by omega,by omega⟩)
theorem ceil_le{C G K:Int}(hC:0<C)(h1:C*(K-1)<G)(h:G<=0):K<=0:=by
 by_cases h2:0<K
 ·have:=Int.mul_nonneg (Int.le_of_lt hC) (show 0<=K-1 by omega);omega
 ·omega
theorem ceil_gt{C G K:Int}(hC:0<C)(h2:G<=C*K)(h:0<G):0<K:=by
 by_cases h3:0<K
 ·exact h3
 ·have:=Ez (show K<=0 by omega) (Int.le_of_lt hC);omega
theorem yU1{b:Bool×Nat}{G C:Int}{K:Int}(hC:0<C)(h1:C*(K-1)<G)(h2:G<=C*K)(hb:ZI b.1 b.2=K):
  (if b.1=true then((false,0):Bool×Nat)else b)=(false,(if 0<G then Int.fdiv (G+(C-1)) C else 0).natAbs)/\0<=(if 0<G then Int.fdiv (G+(C-1)) C else 0):=by
 rw[ceil_div hC h1 h2];obtain⟨s,n⟩:=b
 cases s with
 |true=>
  rw[Ab rfl];have hb: -((n:Nat):Int)=K:=hb;by_cases h:0<G
  ·have:=ceil_gt hC h2 h;omega
  ·rw[Aa h];exact⟨rfl,by omega⟩
 |false=>
  rw[Aa Bool.false_ne_true];have hb:((n:Nat):Int)=K:=hb;by_cases h:0<G
  ·rw[Ab h];exact⟨by rw[<-hb];rfl,by omega⟩
  ·rw[Aa h];have:=ceil_le hC h1 om;exact⟨by rw[show n=0 by omega];rfl,by omega⟩
theorem dS0(x:RgN)(h0:0<x.nc):x.cnt=(false,(jC (ZI x.sa x.na) (ZI x.sb x.nb) (ZI x.sc x.nc)).natAbs)/\0<=jC (ZI x.sa x.na) (ZI x.sb x.nb) (ZI x.sc x.nc):=by
 obtain⟨d1,d2⟩:=dm_Z (s:=x.g.1) (t:=x.sc) (x:=x.g.2) h0;have hg:ZI x.g.1 x.g.2=ZI x.sb x.nb-ZI x.sa x.na:=by
  unfold RgN.g;rw[bU0,ZI_neg];omega
 rw[hg]at d1 d2;have hfm:=Int.mul_fdiv_add_fmod (ZI x.sb x.nb-ZI x.sa x.na) (ZI x.sc x.nc);have hq:ZI x.q2.1 x.q2.2=if 0<x.r then Int.fdiv (ZI x.sb x.nb-ZI x.sa x.na) (ZI x.sc x.nc)+1 else Int.fdiv (ZI x.sb x.nb-ZI x.sa x.na) (ZI x.sc x.nc):=by
  unfold RgN.q2;split
  ·rw[bU0];show ZI (x.g.1 !=x.sc) _+1=_;rw[<-d1];rfl
  ·exact d1
 have hr:x.r<x.nc:=by
  show dmR x.g.1 x.sc x.g.2 x.nc<x.nc;have hm:=Cx x.g.2 h0;unfold dmR;split<;>omega
 have hd2:ZI x.sc x.r=Int.fmod (ZI x.sb x.nb-ZI x.sa x.na) (ZI x.sc x.nc):=d2;rw[<-hd2]at hfm;generalize Int.fdiv (ZI x.sb x.nb-ZI x.sa x.na) (ZI x.sc x.nc)=q at*;unfold RgN.cnt
 cases hs:x.sc with
 |false=>
  have e1:ZI false x.nc=((x.nc:Nat):Int):=rfl;have e2:ZI false x.r=((x.r:Nat):Int):=rfl;rw[hs,e1,e2]at hfm;have hl:jC (ZI x.sa x.na) (ZI x.sb x.nb) (ZI false x.nc)=if ZI x.sa x.na<ZI x.sb x.nb then Int.fdiv (ZI x.sb x.nb-ZI x.sa x.na+((x.nc:Int)-1)) x.nc else 0:=by
   unfold jC qY;rw[e1,Aa (show ¬((x.nc:Nat):Int)<0 by omega),Aa (show ¬((x.nc:Nat):Int)<0 by omega),Int.mul_one]
  rw[hl];obtain⟨k1,k2⟩:=dZ0 (C:=x.nc) (q:=q) (r:=x.r) (K:=ZI x.q2.1 x.q2.2) om om om (by rw[hq];split<;>split<;>omega)
  have h:=yU1 (b:=x.q2) (C:=x.nc) (G:=ZI x.sb x.nb-ZI x.sa x.na) om om om rfl;have e3:(0<ZI x.sb x.nb-ZI x.sa x.na)=(ZI x.sa x.na<ZI x.sb x.nb):=propext om;simp only[e3]at h;exact h
 |true=>
  have e1:ZI true x.nc= -((x.nc:Nat):Int):=rfl;have e2:ZI true x.r= -((x.r:Nat):Int):=rfl;rw[hs,e1,e2,Int.neg_mul]at hfm;have hl:jC (ZI x.sa x.na) (ZI x.sb x.nb) (ZI true x.nc)=if ZI x.sb x.nb<ZI x.sa x.na then Int.fdiv (ZI x.sa x.na-ZI x.sb x.nb+((x.nc:Int)-1)) x.nc else 0:=by
   unfold jC qY;rw[e1,Ab (show-((x.nc:Nat):Int)<0 by omega),Ab (show-((x.nc:Nat):Int)<0 by omega),show-((x.nc:Nat):Int)* -1=((x.nc:Nat):Int) by omega]
  rw[hl];obtain⟨k1,k2⟩:=dZ0 (C:=x.nc) (q:=q) (r:=x.r) (K:=ZI x.q2.1 x.q2.2) om om om (by rw[hq];split<;>split<;>omega)
  have h:=yU1 (b:=x.q2) (C:=x.nc) (G:=ZI x.sa x.na-ZI x.sb x.nb) om om om rfl;have e3:(0<ZI x.sa x.na-ZI x.sb x.nb)=(ZI x.sb x.nb<ZI x.sa x.na):=propext om;simp only[e3]at h;exact h
variable{md me:Bool}
structure RgO(o:Ob):Prop where
 n:2<o.items.length
 il:o.items.length<=2000000
 le:∀j<3,(o.items.getD j vl0).nl.length<=40
 lg:∀j<3,Lg (o.items.getD j vl0).nl
 ok:∀j<3,uH (o.items.getD j vl0).nn (o.items.getD j vl0).nl=true
 c0:0<VL (o.items.getD 2 vl0).nl
def rgO(o:Ob):RgN:=⟨(o.items.getD 0 vl0).nn,VL (o.items.getD 0 vl0).nl,(o.items.getD 1 vl0).nn,VL (o.items.getD 1 vl0).nl,(o.items.getD 2 vl0).nn,VL (o.items.getD 2 vl0).nl⟩
def rlO(o:Ob):Int:=jC (ZI (rgO o).sa (rgO o).na) (ZI (rgO o).sb (rgO o).nb) (ZI (rgO o).sc (rgO o).nc)
theorem rgL_D{sa sb sc:Bool}{la lb lc:List Nat}(ga:Lg la)(gb:Lg lb)(gc:Lg lc)(ha:uH sa la=true)(hb:uH sb lb=true)(hc:uH sc lc=true):rgL sa sb sc la lb lc=rgD (ZI sa (VL la)) (ZI sb (VL lb)) (ZI sc (VL lc)):=by
 obtain⟨a1,a2,_⟩:=pR ga ha;obtain⟨b1,b2,_⟩:=pR gb hb;obtain⟨c1,c2,_⟩:=pR gc hc;unfold rgL rgD;rw[xR,xR,xR,<-a1,<-b1,<-c1,<-a2,<-b2,<-c2]
theorem RgO.dat{o:Ob}(h:RgO o):rgL (o.items.getD 0 vl0).nn (o.items.getD 1 vl0).nn (o.items.getD 2 vl0).nn (o.items.getD 0 vl0).nl (o.items.getD 1 vl0).nl (o.items.getD 2 vl0).nl=rgD (ZI (rgO o).sa (rgO o).na) (ZI (rgO o).sb (rgO o).nb) (ZI (rgO o).sc (rgO o).nc):=
 rgL_D (h.lg 0 de) (h.lg 1 de) (h.lg 2 de) (h.ok 0 de) (h.ok 1 de) (h.ok 2 de)
theorem RgO.siz{o:Ob}(h:RgO o):(lim (ZI (rgO o).sa (rgO o).na).natAbs).length<=40/\(lim (ZI (rgO o).sb (rgO o).nb).natAbs).length<=40/\(lim (ZI (rgO o).sc (rgO o).nc).natAbs).length<=40/\ZI (rgO o).sc (rgO o).nc≠0:=by
 rw[xR,xR,xR];refine⟨?_,?_,?_,fun e=>?_⟩
 ·show(lim (VL (o.items.getD 0 vl0).nl)).length<=40;rw[<-(pR (h.lg 0 de) (h.ok 0 de)).1];exact h.le 0 de
 ·show(lim (VL (o.items.getD 1 vl0).nl)).length<=40;rw[<-(pR (h.lg 1 de) (h.ok 1 de)).1];exact h.le 1 de
 ·show(lim (VL (o.items.getD 2 vl0).nl)).length<=40;rw[<-(pR (h.lg 2 de) (h.ok 2 de)).1];exact h.le 2 de
 ·have h1:=xR (rgO o).sc (rgO o).nc;rw[e]at h1;have h2:=h.c0;have h3:(rgO o).nc=VL (o.items.getD 2 vl0).nl:=rfl;rw[<-h3,<-h1]at h2;exact absurd h2 de
theorem wG1{P:Program}{E:Pn}{K:DS->Prop}{p:Prop}{r:Out}(hr:r.sat P E K)(hp:p:=by first|exact trivial|(refine⟨by decide,?_⟩;have:=ho.n;show _<o.items.length;omega)|(refine⟨by decide,?_⟩;have:=ho.n;simp only[An];show _<o.items.length;omega)):(Out.need p r).sat P E K:=⟨hp,hr⟩
theorem cD0(o:Ob)(ho:RgO o):Fx 31 [.agg (obD o)] (RgN.D (rgO o)):=by
 refine yD zJ Tryz.func31 rfl rfl rfl rfl rfl rfl ?_;intros;refine zB (zE zJ [] 100 rfl ?_);repeat(first|refine zH ?_|refine wG1 ?_)
 refine zC (zA ?_);refine zB (zX zJ [] [[],[0],[0,1],[0,1,2],[0,1,2,3],[],[5],[5,6],[5,6,7],[5,6,7,8],[],[10],[10,11],[10,11,12],[10,11,12,13],(rgN 15),(rgN 16),(rgN 17)] 200 yP kr rfl ?_);repeat(first|refine zH ?_|refine wG1 ?_)
 refine zQ _ (RangeOf_ok _ _ _ (o.items.getD 0 vl0).nl (o.items.getD 1 vl0).nl (o.items.getD 2 vl0).nl (ho.le 0 de) (ho.le 1 de) (ho.le 2 de) (ho.lg 0 de) (ho.lg 1 de) (ho.lg 2 de) ho.c0) rfl ?_;repeat(first|refine zH ?_|refine wG1 ?_)
 refine zC (zA (zL ?_));exact u4 rfl (u6 _)
theorem refLength_ok(o:Ob)(ho:RgO o):Fx 29 [.agg (obD o)] (rD (rgO o).cnt.1 (rgO o).cnt.2):=by
 refine yD zJ Tryz.func29 rfl rfl rfl rfl rfl rfl ?_;intros;refine zK 100 ?_;refine zB (zE zJ [] 200 rfl ?_);refine zF ?_;refine zQ _ (cD0 o ho) rfl ?_;refine zf (zA (zL ?_));exact u4 rfl (u6 _)
variable{md me:Bool}
theorem kG0{x s:Int}(hx:0<x)(hs:0<s):0<Int.fdiv (x+(s-1)) s/\Int.fdiv (x+(s-1)) s<=x/\s*(Int.fdiv (x+(s-1)) s-1)<x:=by
 rw[Ep _ om];have h1:=Int.mul_ediv_add_emod (x+(s-1)) s;have h2:=Int.emod_nonneg (x+(s-1)) (show s≠0 by omega);have h3:=Int.emod_lt_of_pos (x+(s-1)) hs;generalize (x+(s-1))/s=q at*;have h4:s*(q-1)=s*q-s:=by rw[Int.mul_sub,Int.mul_one]
 have h5:0<q:=by
  rcases Int.lt_or_le 0 q with h|h
  ·exact h
  ·have:=Ez h (show 0<=s by omega);omega
 refine⟨h5,?_,by omega⟩;have h6:(q-1)*1<=(q-1)*s:=Ez om om;rw[Int.mul_comm (q-1) s]at h6;omega
theorem sg_pos{c:Int}(h:c≠0):0<c*qY c/\(c*qY c=c\/c*qY c= -c):=by unfold qY;split<;>omega
theorem rlen_bd(a b:Int){c:Int}(h0:c≠0):0<=jC a b c/\(jC a b c).natAbs<=(b-a).natAbs/\(jC a b c≠0->(c*(jC a b c-1)).natAbs<=(b-a).natAbs):=by
 obtain⟨s1,s2⟩:=sg_pos h0;unfold jC;have key:∀x:Int,0<x->x<=(b-a).natAbs->0<=Int.fdiv (x+(c*qY c-1)) (c*qY c)/\(Int.fdiv (x+(c*qY c-1)) (c*qY c)).natAbs<=(b-a).natAbs/\(Int.fdiv (x+(c*qY c-1)) (c*qY c)≠0->(c*(Int.fdiv (x+(c*qY c-1)) (c*qY c)-1)).natAbs<=(b-a).natAbs):=by
  intro x hx hle;obtain⟨h1,h2,h3⟩:=kG0 hx s1;generalize Int.fdiv (x+(c*qY c-1)) (c*qY c)=q at*;refine⟨by omega,by omega,fun _=>?_⟩;have h4:0<=c*qY c*(q-1):=Int.mul_nonneg om om;have h5:c*(q-1)=c*qY c*(q-1)\/c*(q-1)= -(c*qY c*(q-1)):=by
   rcases s2 with e|e
   ·rw[e];exact .inl rfl
   ·rw[e,Int.neg_mul,Int.neg_neg];exact .inr rfl
  omega
 split
 ·split
  ·exact key (a-b) om om
  ·exact⟨Int.le_refl _,by simp,fun h=>absurd rfl h⟩
 ·split
  ·exact key (b-a) om om
  ·exact⟨Int.le_refl _,by simp,fun h=>absurd rfl h⟩
theorem rlen_sz{a b c:Int}(ha:(lim a.natAbs).length<=40)(hb:(lim b.natAbs).length<=40)(h0:c≠0):(lim (jC a b c).natAbs).length<=41:=
 At (qF (rlen_bd a b h0).2.1) (jB hb ha)
theorem vV0(a b c i:Int)(ha:(lim a.natAbs).length<=128)(hc:(lim c.natAbs).length<=128)(hi:(lim i.natAbs).length<=128)(h1:(lim (c*i).natAbs).length<=128)(h2:(lim (a+c*i).natAbs).length<=128):Fx 183 [.agg (rgD a b c),.agg (zV i)] (.agg (zV (a+c*i))):=by
 refine yD zJ Tryz.func183 rfl rfl rfl rfl rfl rfl ?_;intros;refine zK 100 ?_;refine zB (zX zJ [] [[],[0],[],[2],[],[2,3,4],(rgN 6),(rgN 7)] 200 yP kr rfl ?_);refine zF ?_;refine zQ _ (mY0 c i hc hi h1) rfl ?_;refine zF ?_;refine zQ _ (tN a (c*i) ha h1 h2) rfl ?_;refine zf (zA (zL ?_));exact u4 rfl (u6 _)
variable{md me:Bool}
theorem and5:∀a b c d e:Bool,((((a&&b)&&c)&&d)&&e)=((((a&&e)&&d)&&b)&&c):=by decide
theorem mI(b1 b2:Bool)(l1 l2:List Nat):Fx 199 [.agg [.v (.bool b1),usD l1],.agg [.v (.bool b2),usD l2]] (.v (.bool (smI b1 l1 b2 l2))):=by
 refine yD zJ Tryz.func199 rfl rfl rfl rfl rfl rfl ?_;intros;refine zK 100 ?_;refine zB (zE zJ [] 200 rfl ?_);refine zF ?_;refine yR _ (fun hg10=>xV0 _ _) rfl ?_;refine zf (zA (zL ?_));exact u4 rfl (u6 _)
theorem heapSameValue_ok(a b:Vl):Fx 156 [.agg (vlD a),.agg (vlD b)] (.v (.bool (decide (a=b)))):=by
 refine yD zJ Tryz.func156 rfl rfl rfl rfl rfl rfl ?_;intros;refine zK 100 ?_;refine zB (zE zJ [] 200 rfl ?_);refine zF ?_;refine yR _ (fun hg10=>mI _ _ _ _) rfl ?_;refine zF ?_;refine yR _ (fun hg17=>mI _ _ _ _) rfl ?_;refine zf (zA (zL ?_));exact u4 rfl (u7 ((and5 _ _ _ _ _).trans (uH1 a b)))
def eqF(F:Vl->Vl->Bool)(a b:List Vl):Bool:=decide ((a.length:Int)=b.length)&&(List.range a.length).all (prP F a b)
def cpD(md:Bool)(h:List Ob):D:= .pt true [.sl md 10 h obD ob0]
def yR0(h:List Ob)(F:Vl->Vl->Bool)(v w:Vl):Bool:=
 if ¬v.k=6\/¬w.k=6 then decide (v=w)else if v.r=w.r then true
 else decide ((yJ h v.r).kind=1)&&decide ((yJ h w.r).kind=1)&&eqF F (yJ h v.r).items (yJ h w.r).items
theorem EqualFunc_ok(h:List Ob)(a b:List Vl)(F:Vl->Vl->Bool)(ha:a.length<=2000000)(H:∀x∈a,∀y∈b,Fx 158 [.agg (vlD x),.agg (vlD y),cpD md h] (.v (.bool (F x y)))):Fx 157 [vsD a,vsD b,.clo 158 [cpD md h]] (.v (.bool (eqF F a b))):=by
 refine yD zJ Tryz.func157 rfl rfl rfl rfl rfl rfl ?_;intros;refine zK 100 ?_;refine zB (zK 200 ?_);refine zU rfl (fun c1=>?_) (fun c1=>?_)
 ·replace c1:¬(a.length:Int)=b.length:=by simpa using c1
  refine zK 300 ?_;refine zL (zO ?_);exact u4 rfl (u7 (by rw[eqF,Ce c1];rfl))
 ·replace c1:(a.length:Int)=b.length:=by simpa using c1
  refine zM (zA (zB (zK 400 ?_)));refine zP ?_;refine yC (ι:=Up a.length (prP F a b)) [1,2,15,16] [] 450 (fun x=>[(17,.v (.int .i64 x.k))]) (fun _=>[]) (fun x=>a.length-x.k) ⟨0,Aq _,fun j hj=>by omega⟩ ?_;refine⟨⟨yG,yF,rfl,rfl⟩,fun x=>?_⟩;have hk:=x.le;refine zK 500 ?_;refine zB (zZ (fun c4=>?_) (fun c4=>?_))
  ·
   refine zM (zA (zB (zP (zK 600 ?_))));refine zK 700 ?_;refine zB (zE zJ [] 800 rfl ?_);refine zF ?_;refine zQ _ (H _ (by rw[wW c4];exact Cj _) _ (by rw[wW om];exact Cj _)) rfl ?_;refine zF ?_;refine zC (zA (zZ (fun c7=>?_) (fun c7=>?_)))
   ·
    refine zK 900 ?_;refine zL (zR (zO (yQ (zR (zO ?_)))));exact u4 rfl (u7 (by rw[eqF,Up.no (p:=prP F a b) c4 c7,Bool.and_false]))
   ·
    refine zM (zN (zA (yM zJ [] 1000 ?_)));exact zS (x.next c4 c7) ⟨yG,yF,rfl,rfl⟩ (by show a.length-(x.k+1)<a.length-x.k;omega)
  ·
   refine yE (yA (yB (zY (zA (zK 1100 ?_)))));refine zL ?_;exact u4 rfl (u7 (by rw[eqF,Bf c1,x.yes om];rfl))
theorem SameKeyC_ok(h:List Ob)(x y:Vl)(b:Bool)(H:Fx 98 [hpD md h,.agg (vlD x),.agg (vlD y)] (.v (.bool b))):Fx 158 [.agg (vlD x),.agg (vlD y),cpD md h] (.v (.bool b)):=by
 refine yD zJ Tryz.func158 rfl rfl rfl rfl rfl rfl ?_;intros;refine zK 100 ?_;refine zB (zE zJ [] 200 rfl ?_);refine zF ?_;refine zQ _ (H) rfl ?_;refine zf (zA (zL ?_));exact u4 rfl (u6 _)
theorem gT(h:List Ob)(v w:Vl)(F:Vl->Vl->Bool)(hh:HpIn h)(hv:v.k=6->inH h v.r)(hw:w.k=6->inH h w.r)(H:v.k=6->w.k=6->(yJ h v.r).kind=1->∀x∈(yJ h v.r).items,∀y∈(yJ h w.r).items,Fx 98 [hpD md h,.agg (vlD x),.agg (vlD y)] (.v (.bool (F x y)))):Fx 98 [hpD md h,.agg (vlD v),.agg (vlD w)] (.v (.bool (yR0 h F v w))):=by
 refine yD zJ Tryz.func98 rfl rfl rfl rfl rfl rfl ?_;intros;refine zK 100 ?_;refine zB (zK 200 ?_);refine zU rfl (fun c1=>?_) (fun c1=>?_)
 ·replace c1:¬v.k=6\/¬w.k=6:=by simpa[Classical.or_iff_not_imp_left]using c1
  refine zB (zE zJ [] 300 rfl ?_);refine zF ?_;refine zQ _ (heapSameValue_ok _ _) rfl ?_;refine zf (zA (zL (zO ?_)));exact u4 rfl (u7 (by rw[yR0,Ab c1]))
 ·replace c1:¬(¬v.k=6\/¬w.k=6):=by simpa using c1
  refine zM (zA (zB (zK 400 ?_)));refine zZ (fun c3=>?_) (fun c3=>?_)
  ·
   refine zK 500 ?_;refine zL (zO ?_);exact u4 rfl (u7 (by rw[yR0,Aa c1,Ab c3]))
  ·
   refine zM (zA ?_);refine zB (zX zJ [] [[],[0],[],[2],[0,1,2,3],(rgN 5),[],[6],[],[8],[6,7,8,9],[6,7,8,9,10],[],[],[0,1,2,3,4,5,12,13],(rgN 15)] 600 yP kr rfl ?_);repeat(first|refine zH ?_|refine zW (by first|exact hv (by omega)|exact hw (by omega)) ?_)
   refine zC (zA ?_);refine zB (zE zJ [] 700 rfl ?_);refine zF ?_;refine⟨fun hs=>?_,fun hs=>?_⟩
   ·refine zF ?_;refine sat_fnLG _ (fun hg=>EqualFunc_ok h _ _ F (hh.at v.r).il fun x hx y hy=>SameKeyC_ok h x y _ (H om om (by have h1:(decide ((yJ h v.r).kind=1)&&decide ((yJ h w.r).kind=1))=true:=hs;simp only[Aj,Ap]at h1;exact h1.1) x hx y hy)) rfl rfl ?_;refine zf (zA (zL ?_));exact u4 rfl (u7 (by rw[yR0,Aa c1,Aa c3,show(decide ((yJ h v.r).kind=1)&&decide ((yJ h w.r).kind=1))=true from hs,Dm]))
   ·refine zF ?_;refine yR (.v (.bool false)) (fun hg=>by rw[hs]at hg;cases hg) rfl ?_;refine zf (zA (zL ?_));exact u4 rfl (u7 (by rw[yR0,Aa c1,Aa c3,show(decide ((yJ h v.r).kind=1)&&decide ((yJ h w.r).kind=1))=false from hs];rfl))
def Rv(h:List Ob)(v:Vl):Prop:=v.k=6->qA h v.r=true
theorem bS{h:List Ob}{v:Vl}(hr:Rv h v)(hk:v.k=6):zT h v=yJ h v.r:=wA hr hk
theorem pO0{h:List Ob}{v:Vl}(hk:(zT h v).kind=1):v.k=6:=(jR (by rw[hk];decide)).1
theorem kA0{h:List Ob}(g:Uh h){n:Int}(hn:qA h n=true){v:Vl}(hv:v∈(yJ h n).items):Rv h v:=fun hk=>g.items (yW hn) hv hk
theorem mE0{v:Vl}(h:qH v=true)(hk:v.k=6):v=⟨6,false,[],false,[],⟨#[]⟩,v.r⟩:=by
 unfold qH at h;rw[Aa om,Aa om,Aa om,Aa om,Aa om,Aa om,Aa om,Ab hk]at h;simp only[Aj,zI,jJ0,emS,Ap]at h;obtain⟨⟨⟨h1,h2⟩,h3,h4⟩,h5⟩:=h
 cases v
 simp_all
theorem ref_eq{v w:Vl}(h1:qH v=true)(h2:qH w=true)(hv:v.k=6)(hw:w.k=6)(hr:v.r=w.r):v=w:=by
 rw[mE0 h1 hv,mE0 h2 hw,hr]
theorem pX0{h:List Ob}(g:Uh h){n:Int}(hn:qA h n=true)(h1:(yJ h n).kind=1){v:Vl}(hv:v∈(yJ h n).items):qH v=true:=by
 have hin:=yW hn;by_cases h49:n.toNat<49
 ·rw[show yJ h n=bgO n.toNat from g.lo_at h49]at h1;exact absurd h1 (by show ¬(9:Int)=1;decide)
 ·have e:qH (fixV (yJ h ((n.toNat:Nat):Int)) v)=true:=(tH (g.hi_at om hin.2).vals).ok v (Av.2 (.inr hv))
  rwa[fixV,Aa (by rw[<-wE hin,h1];omega)]at e
theorem uX0{n:Nat}{p q:Nat->Bool}(h:∀i,i<n->p i=q i):(List.range n).all p=(List.range n).all q:=by
 rw[Bool.eq_iff_iff,Bl,Bl];exact⟨fun hp i hi=>by rw[<-h i (Ct.1 hi)];exact hp i hi,fun hp i hi=>by rw[h i (Ct.1 hi)];exact hp i hi⟩
section
variable{h:List Ob}{F G:Vl->Vl->Bool}
theorem yZ0(hr:∀x,G x x=true)(v:Vl):dP h G v v=true:=by
 by_cases hk:(zT h v).kind=1/\(zT h v).kind=1
 ·rw[uJ hk,Bf rfl,Dm,Bl];intro i _;exact hr _
 ·rw[uW hk,Bf rfl]
theorem stepK_symm(hs:∀x y,G x y=G y x)(v w:Vl):dP h G v w=dP h G w v:=by
 by_cases hk:(zT h v).kind=1/\(zT h w).kind=1
 ·rw[uJ hk,uJ hk.symm];by_cases hl:((zT h v).items.length:Int)=(zT h w).items.length
  ·have hl':(zT h v).items.length=(zT h w).items.length:=by omega
   rw[Bf hl,Bf hl.symm,<-hl'];exact congrArg _ (uX0 fun i _=>hs _ _)
  ·rw[Ce hl,Ce (fun e=>hl e.symm)];rfl
 ·rw[uW hk,uW fun e=>hk e.symm];exact decide_eq_decide.2 eq_comm
theorem stepK_trans(ht:∀x y z,G x y=true->G y z=G x z)(v w x:Vl)(hv:dP h G v w=true):dP h G w x=dP h G v x:=by
 by_cases hk:(zT h v).kind=1/\(zT h w).kind=1
 ·rw[uJ hk,Aj,Ap,Bl]at hv;have hl':(zT h v).items.length=(zT h w).items.length:=by omega
  by_cases hx:(zT h x).kind=1
  ·rw[uJ ⟨hk.2,hx⟩,uJ ⟨hk.1,hx⟩,<-hl'];exact congrArg _ (uX0 fun i hi=>ht _ _ _ (hv.2 i (Ct.2 hi)))
  ·rw[uW fun e=>hx e.2,uW fun e=>hx e.2,Ce (fun e=>hx (by rw[<-e];exact hk.2)),Ce (fun e=>hx (by rw[<-e];exact hk.1))]
 ·rw[uW hk,Ap]at hv;rw[hv]
end
theorem mQ0(h:List Ob):∀(n:Nat)(v:Vl),smK h n v v=true
 |0,v=>Bf rfl
 |n+1,v=>yZ0 (mQ0 h n) v
theorem pG(h:List Ob):∀(n:Nat)(v w:Vl),smK h n v w=smK h n w v
 |0,v,w=>decide_eq_decide.2 eq_comm
 |n+1,v,w=>stepK_symm (pG h n) v w
theorem cR(h:List Ob):∀(n:Nat)(v w x:Vl),smK h n v w=true->smK h n w x=smK h n v x
 |0,v,w,x,hv=>by rw[Ag hv]
 |n+1,v,w,x,hv=>stepK_trans (cR h n) v w x hv
def shH(h:List Ob):Nat->Vl->Vl->Bool
 |0=>yR0 h fun _ _=>false
 |n+1=>yR0 h (shH h n)
def Vd(h:List Ob)(v:Vl):Prop:=qH v=true/\Rv h v
theorem cA0{h:List Ob}{F G:Vl->Vl->Bool}{v w:Vl}(hv:Vd h v)(hw:Vd h w)(hr:∀x,G x x=true)
  (hFG:v.k=6->w.k=6->(yJ h v.r).kind=1->(yJ h w.r).kind=1->∀x∈(yJ h v.r).items,∀y∈(yJ h w.r).items,F x y=G x y):yR0 h F v w=dP h G v w:=by
 unfold yR0;by_cases c1:¬v.k=6\/¬w.k=6
 ·rw[Ab c1,uW];rintro⟨e1,e2⟩;rcases c1 with c|c
  ·exact c (pO0 e1)
  ·exact c (pO0 e2)
 ·have k1:v.k=6:=by omega
  have k2:w.k=6:=by omega
  rw[Aa c1];by_cases c2:v.r=w.r
  ·rw[Ab c2,ref_eq hv.1 hw.1 k1 k2 c2,yZ0 hr]
  ·rw[Aa c2];have o1:=bS hv.2 k1;have o2:=bS hw.2 k2;by_cases hk:(yJ h v.r).kind=1/\(yJ h w.r).kind=1
   ·rw[uJ (by rw[o1,o2];exact hk),o1,o2,Bf hk.1,Bf hk.2,Dm,Dm,eqF];by_cases hl:((yJ h v.r).items.length:Int)=(yJ h w.r).items.length
    ·refine congrArg _ (uX0 fun i hi=>hFG k1 k2 hk.1 hk.2 _ ?_ _ ?_)
     ·rw[wW hi];exact Cj _
     ·rw[wW om];exact Cj _
    ·rw[Ce hl];rfl
   ·rw[uW (by rw[o1,o2];exact hk),Ce (fun e:v=w=>c2 (by rw[e])),show(decide ((yJ h v.r).kind=1)&&decide ((yJ h w.r).kind=1))=false from by rw[<-Bool.decide_and];exact Ce hk];rfl
theorem gK1{h:List Ob}(g:Uh h):∀(n:Nat)(v w:Vl),Dp h n v->Vd h v->Vd h w->shH h n v w=smK h n v w
 |0,v,w,hd,hv,hw=>by
  have e1:=cA0 (F:=fun _ _=>false) (G:=fun x y=>decide (x=y)) hv hw (fun x=>Bf rfl) (fun k1 _ h1 _=>absurd (by rw[bS hv.2 k1];exact h1) hd);show yR0 h _ v w=decide (v=w);rw[e1,uW fun e=>hd e.1]
 | n+1,v,w,hd,hv,hw=>cA0 (G:=smK h n) hv hw (mQ0 h n) fun k1 k2 h1 h2 x hx y hy=>
   gK1 g n x y (hd (by rw[bS hv.2 k1];exact h1) x (by rw[bS hv.2 k1];exact hx)) ⟨pX0 g (hv.2 k1) h1 hx,kA0 g (hv.2 k1) hx⟩ ⟨pX0 g (hw.2 k2) h2 hy,kA0 g (hw.2 k2) hy⟩
theorem wW0{h:List Ob}(hh:HpIn h)(g:Uh h):∀(n:Nat)(v w:Vl),Dp h n v->Rv h v->Rv h w->Fx 98 [hpD md h,.agg (vlD v),.agg (vlD w)] (.v (.bool (shH h n v w)))
 |0,v,w,hd,hv,hw=>gT h v w (fun _ _=>false) hh (fun k=>yW (hv k)) (fun k=>yW (hw k)) fun k1 _ h1=>absurd (by rw[bS hv k1];exact h1) hd
 | n+1,v,w,hd,hv,hw=>gT h v w (shH h n) hh (fun k=>yW (hv k)) (fun k=>yW (hw k)) fun k1 k2 h1 x hx y hy=>
   wW0 hh g n x y (hd (by rw[bS hv k1];exact h1) x (by rw[bS hv k1];exact hx)) (kA0 g (hv k1) hx) (kA0 g (hw k2) hy)
theorem heapKey_ok{h:List Ob}(hh:HpIn h)(g:Uh h){v w:Vl}(hk:vG h v=true)(hv:Vd h v)(hw:Vd h w):Fx 98 [hpD md h,.agg (vlD v),.agg (vlD w)] (.v (.bool (smK h 1001 v w))):=by
 rw[<-gK1 g 1001 v w (gF hk) hv hw];exact wW0 hh g 1001 v w (gF hk) hv.2 hw.2
theorem mQ{h:List Ob}{k:Vl}:∀{l:List Vl},0<=plI h l k->(plI h l k).toNat<l.length/\smK h 1001 (l.getD (plI h l k).toNat vl0) k=true
 |[],h0=>absurd h0 (by show ¬(0:Int)<= -1;omega)
 |x::l,h0=>by
  rw[plI]at h0⊢;by_cases hx:smK h 1001 x k=true
  ·rw[Ab hx]at h0⊢;exact⟨by rw[Am];simp,hx⟩
  ·rw[Aa hx]at h0⊢;by_cases hl:plI h l k<0
   ·rw[Ab hl]at h0;omega
   ·rw[Aa hl]at h0⊢;have ih:=mQ (h:=h) (l:=l) (k:=k) om;have e:(plI h l k+1).toNat=(plI h l k).toNat+1:=by omega
    rw[e];exact⟨by rw[Am];omega,ih.2⟩
theorem pH0{h:List Ob}{k:Vl}{l:List Vl}(h0:plI h l k<0):∀x∈l,smK h 1001 x k=false:=by
 have h1:=jP0 h k l;rw[Ce om]at h1;intro x hx;have h2:=List.any_eq_false.1 h1.symm x hx;simpa using h2
theorem gQ0{h:List Ob}{k:Vl}{r:List Vl}:∀{l:List Vl},0<=plI h l k->plI h (l++r) k=plI h l k
 |[],h0=>absurd h0 (by show ¬(0:Int)<= -1;omega)
 |x::l,h0=>by
  rw[List.cons_append,plI,plI];rw[plI]at h0;by_cases hx:smK h 1001 x k=true
  ·rw[Ab hx,Ab hx]
  ·rw[Aa hx]at h0⊢;rw[Aa hx];by_cases hl:plI h l k<0
   ·rw[Ab hl]at h0;omega
   ·rw[gQ0 (l:=l) om]
theorem pG0{h:List Ob}{k x:Vl}:∀{l:List Vl},plI h l k<0->smK h 1001 x k=true->plI h (l++[x]) k=(l.length:Int)
 |[],_,hx=>by
  show plI h [x] k=_;rw[plI,Ab hx];rfl
 |y::l,h0,hx=>by
  have hy:¬smK h 1001 y k=true:=by
   have:=pH0 h0 y Bc;rw[this];decide
  have hl:plI h l k<0:=by
   rw[plI,Aa hy]at h0;by_cases hl:plI h l k<0
   ·exact hl
   ·rw[Aa hl]at h0;omega
  rw[List.cons_append,plI,Aa hy,pG0 hl hx,Aa om,Am]
  push_cast;rfl
theorem gR0{h:List Ob}{k:Vl}{l:List Vl}(hl:∀x∈l,smK h 1001 x k=false):plI h l k<0:=by
 rw[tQ hl];decide
def Dk(h:List Ob)(l:List Vl):Prop:=∀i j,i<l.length->j<l.length->i≠j->smK h 1001 (l.getD i vl0) (l.getD j vl0)=false
theorem uY1{h:List Ob}:∀{l seen:List Vl},krF h seen l=0->(∀k∈l,vG h k=true)/\(∀k∈l,∀x∈seen,smK h 1001 x k=false)/\l.Pairwise fun x y=>smK h 1001 x y=false
 |[],_,_=>⟨(fun _ h=>by cases h),(fun _ h=>by cases h),List.Pairwise.nil⟩
 |s::r,seen,hk=>by
  rw[krF]at hk;split at hk
  ·cases hk
  ·rename_i h1;split at hk
   ·cases hk
   ·rename_i h2;obtain⟨a,b,c⟩:=uY1 hk;have h2:∀x∈seen,smK h 1001 x s=false:=by simpa using h2
    refine⟨fun k hk=>?_,fun k hk x hx=>?_,List.Pairwise.cons (fun y hy=>b y hy s (Av.2 (.inr (Cc.2 rfl)))) c⟩
    ·rcases Bi.1 hk with rfl|hk
     ·simpa using h1
     ·exact a k hk
    ·rcases Bi.1 hk with rfl|hk
     ·exact h2 x hx
     ·exact b k hk x (Av.2 (.inl hx))
theorem dk_of{h:List Ob}{l:List Vl}(hp:l.Pairwise fun x y=>smK h 1001 x y=false):Dk h l:=by
 intro i j hi hj hne;have hg:∀{i:Nat}(hi:i<l.length),l.getD i vl0=l[i]:=fun hi=>by rw[Af,Ac hi];rfl
 rw[hg hi,hg hj];rcases Nat.lt_or_gt_of_ne hne with h1|h1
 ·exact List.pairwise_iff_getElem.1 hp i j hi hj h1
 ·rw[pG];exact List.pairwise_iff_getElem.1 hp j i hj hi h1
structure Kd(h:List Ob)(l:List Vl):Prop where
 keyed:∀k∈l,vG h k=true
 vd:∀k∈l,Vd h k
 dk:Dk h l
theorem bX0{h:List Ob}(g:Uh h){v:Vl}(hv:v.k=6->qA h v.r=true)(hk:(zT h v).kind=3\/(zT h v).kind=4):Kd h (zT h v).keys:=by
 obtain⟨h6,ho,e⟩:=jR (h:=h) (v:=v) om;rw[e]at hk⊢;have hin:=yW ho;have h49:¬v.r.toNat<49:=fun hl=>by
  rw[show yJ h v.r=bgO v.r.toNat from g.lo_at hl]at hk;exact absurd hk (by show ¬((9:Int)=3\/(9:Int)=4);decide)
 have u:=g.hi_at (i:=v.r.toNat) om hin.2;rw[<-wE hin]at u;have vs:=tH u.vals;obtain⟨a,_,c⟩:=uY1 u.keys;refine⟨a,fun k hk'=>⟨?_,fun h6=>vs.vals k (Av.2 (.inl hk')) h6⟩,dk_of c⟩;have:=vs.ok k (Av.2 (.inl hk'))
 rwa[fixV,Aa om]at this
def unP(h:List Ob)(x y:Ob)(i:Nat):Bool:=decide (plI h x.keys (y.keys.getD i vl0)<0)
def unF(h:List Ob)(x y:Ob)(yk:List Vl)(j:Nat):Vl:=if 0<=plI h yk (x.keys.getD j vl0)then y.items.getD (plI h yk (x.keys.getD j vl0)).toNat vl0 else x.items.getD j vl0
def unK(h:List Ob)(x y:Ob)(i:Nat):List Vl:=x.keys++((List.range i).filter (unP h x y)).map fun i=>y.keys.getD i vl0
def unI(h:List Ob)(x y:Ob)(i:Nat):List Vl:=(List.range x.keys.length).map (unF h x y (y.keys.take i))++((List.range i).filter (unP h x y)).map fun i=>y.items.getD i vl0
def unO(h:List Ob)(x y:Ob):Ob:=⟨3,ByteArray.empty,0,[],[],[],unI h x y y.keys.length,unK h x y y.keys.length,0,0⟩
theorem map_range_getD(l:List Vl):(List.range l.length).map (fun j=>l.getD j vl0)=l:=by
 apply List.ext_getElem?;intro i;rw[Bx];by_cases hi:i<l.length
 ·rw[Ew hi,Ac hi];show some (l.getD i vl0)=_;rw[Af,Ac hi];rfl
 ·rw[Cz (by rw[Du];omega),Cz om];rfl
theorem mH0(h:List Ob)(x y:Ob):unK h x y 0=x.keys:=by simp[unK]
theorem mI0{h:List Ob}{x:Ob}(hl:x.items.length=x.keys.length)(y:Ob):unI h x y 0=x.items:=by
 rw[unI,List.take_zero];have:(List.range x.keys.length).map (unF h x y [])=x.items:=by
  rw[<-hl];refine(List.map_congr_left fun j _=>?_).trans (map_range_getD x.items);exact Aa (by show ¬(0:Int)<= -1;decide)
 rw[this];simp
theorem unK_len(h:List Ob)(x y:Ob)(i:Nat):(unK h x y i).length<=x.keys.length+i:=by
 rw[unK,Ae,An];have:=List.length_filter_le (unP h x y) (List.range i);rw[Du]at this;omega
section
variable{h:List Ob}{x y:Ob}{i:Nat}(hi:i<y.keys.length)
include hi
omit hi in
theorem jZ1(hp:unP h x y i=true):(List.range (i+1)).filter (unP h x y)=(List.range i).filter (unP h x y)++[i]:=by
 rw[Ec,List.filter_append,Eu,Ab hp];rfl
omit hi in
theorem tK0(hp:¬unP h x y i=true):(List.range (i+1)).filter (unP h x y)=(List.range i).filter (unP h x y):=by
 rw[Ec,List.filter_append,Eu,Aa hp];simp
theorem xZ0:y.keys.take (i+1)=y.keys.take i++[y.keys.getD i vl0]:=by
 have e:y.keys.getD i vl0=y.keys[i]:=by rw[Af,Ac hi];rfl
 rw[Dh hi,e]
theorem un_prev(hy:Dk h y.keys):∀{k:Vl},k∈y.keys.take i->smK h 1001 k (y.keys.getD i vl0)=false:=by
 intro k hk;obtain⟨j,hj,e⟩:=List.getElem_of_mem hk;rw[As]at hj;have e2:y.keys.getD j vl0=k:=by
  rw[Af,Ac om,<-e];simp
 rw[<-e2];exact hy j i om hi om
theorem un_new(hy:Dk h y.keys)(h0:plI h x.keys (y.keys.getD i vl0)<0):unK h x y (i+1)=unK h x y i++[y.keys.getD i vl0]/\unI h x y (i+1)=unI h x y i++[y.items.getD i vl0]:=by
 have hp:unP h x y i=true:=Bf h0;rw[unK,unK,unI,unI,jZ1 hp,Ad,Ad,<-Cg,<-Cg];refine⟨rfl,?_⟩;congr 2;refine List.map_congr_left fun j hj=>?_;have hj:=Ct.1 hj;have hx:smK h 1001 (y.keys.getD i vl0) (x.keys.getD j vl0)=false:=by
  rw[pG];refine pH0 h0 _ ?_;rw[Af,Ac hj];exact Cj _
 unfold unF;rw[xZ0 hi];by_cases h1:0<=plI h (y.keys.take i) (x.keys.getD j vl0)
 ·rw[gQ0 h1]
 ·have h2:plI h (y.keys.take i++[y.keys.getD i vl0]) (x.keys.getD j vl0)<0:=gR0 fun k hk=>by
   rcases Av.1 hk with hk|hk
   ·exact pH0 om k hk
   ·rw[Cc.1 hk];exact hx
  rw[Aa om,Aa h1]
theorem un_old(hx:Dk h x.keys)(hy:Dk h y.keys)(h0:0<=plI h x.keys (y.keys.getD i vl0)):unK h x y (i+1)=unK h x y i/\unI h x y (i+1)=(unI h x y i).set (plI h x.keys (y.keys.getD i vl0)).toNat (y.items.getD i vl0):=by
 have hp:¬unP h x y i=true:=by rw[unP,Ce (by omega)];decide
 obtain⟨hj,hs⟩:=mQ h0;generalize hj0:(plI h x.keys (y.keys.getD i vl0)).toNat=j0 at*;rw[unK,unK,unI,unI,tK0 hp];refine⟨rfl,?_⟩;rw[List.set_append_left _ _ (by rw[An,Du];exact hj)];congr 1;apply List.ext_getElem?;intro j;rw[List.getElem?_set,Bx,Bx,An,Du];by_cases hjl:j<x.keys.length
 ·rw[Ew hjl];by_cases hjj:j0=j
  ·subst hjj;rw[Ab rfl,Ab hjl];show some (unF h x y (y.keys.take (i+1)) j0)=some (y.items.getD i vl0);congr 1;have hn:plI h (y.keys.take i) (x.keys.getD j0 vl0)<0:=gR0 fun k hk=>by
    by_cases hk1:smK h 1001 k (x.keys.getD j0 vl0)=true
    ·have h3:=un_prev hi hy hk;have h4:=cR h 1001 k (x.keys.getD j0 vl0) (y.keys.getD i vl0) hk1;rw[hs,h3]at h4
     cases h4
    ·simpa using hk1
   have hq:=pG0 hn (x:=y.keys.getD i vl0) (by rw[pG];exact hs);unfold unF;rw[xZ0 hi,hq,Ab om,As,De om,Ak]
  ·rw[Aa hjj];show some (unF h x y (y.keys.take (i+1)) j)=some (unF h x y (y.keys.take i) j);congr 1;have hn:smK h 1001 (y.keys.getD i vl0) (x.keys.getD j vl0)=false:=by
    by_cases hk1:smK h 1001 (y.keys.getD i vl0) (x.keys.getD j vl0)=true
    ·have h4:=cR h 1001 (x.keys.getD j0 vl0) (y.keys.getD i vl0) (x.keys.getD j vl0) hs;rw[hk1,hx j0 j hj hjl hjj]at h4
     cases h4
    ·simpa using hk1
   unfold unF;rw[xZ0 hi];by_cases h1:0<=plI h (y.keys.take i) (x.keys.getD j vl0)
   ·rw[gQ0 h1]
   ·have h2:plI h (y.keys.take i++[y.keys.getD i vl0]) (x.keys.getD j vl0)<0:=gR0 fun k hk=>by
     rcases Av.1 hk with hk|hk
     ·exact pH0 om k hk
     ·rw[Cc.1 hk];exact hn
    rw[Aa om,Aa h1]
 ·rw[Cz (by rw[Du];omega)];rw[Aa (show ¬j0=j by omega)];rfl
end
variable{md me:Bool}
def vpD(k:Vl):D:= .pt true (vlD k)
theorem vJ(h:List Ob)(v:Vl)(hv:v.k=6->qA h v.r=true):Fx 40 [hpD md h,.agg (vlD v)] (.agg (obD (zT h v))):=by
 refine yD zJ Tryz.func40 rfl rfl rfl rfl rfl rfl ?_;intros;refine zK 100 ?_;refine zB (zK 200 ?_);refine zZ (fun c1=>?_) (fun c1=>?_)
 ·
  refine zK 300 ?_;refine zL (zO ?_);have e:zT h v=ob0:=jU0 c1;rw[e];exact u4 rfl (by repeat(first|exact trivial|exact u6 _|exact u12 rfl|refine u20 ?_|refine⟨?_,?_⟩))
 ·
  refine zM (zA ?_);refine zB (zE zJ [] 400 rfl ?_);repeat(first|refine zH ?_|refine zW (by exact yW (hv c1)) ?_)
  refine zC (zA (zL ?_));have e:zT h v=h.getD v.r.toNat ob0:=wA hv c1;rw[e];exact u4 rfl (by repeat(first|exact trivial|exact u6 _|exact u12 rfl|refine u20 ?_|refine⟨?_,?_⟩))
theorem IndexFuncV_ok(h:List Ob)(l:List Vl)(k:Vl)(H:∀x∈l,Fx 97 [.agg (vlD x),cpD md h,vpD k] (.v (.bool (smK h 1001 x k)))):Fx 96 [.sl me 7 l vlD vl0,.clo 97 [cpD md h,vpD k]] (.v (.int .i64 (plI h l k))):=by
 refine yD zJ Tryz.func96 rfl rfl rfl rfl rfl rfl ?_;intros;refine xN 0 rfl fun hl0=>?_;refine zK 100 ?_;refine zB (zK 200 ?_);refine zP ?_;refine yC (ι:=Al l (fun x=> !smK h 1001 x k)) [0,1,7] [] 250 (fun x=>[(8,.v (.int .i64 x.k))]) (fun _=>[]) (fun x=>l.length-x.k) ⟨0,Aq _,fun j x hj=>by omega⟩ ?_;refine⟨⟨yG,yF,rfl,rfl⟩,fun x=>?_⟩;have hk:=x.le;refine zK 300 ?_;refine zB (zU rfl (fun c2=>?_) (fun c2=>?_))
 ·have c2:x.k<l.length:=by simpa using c2
  refine zM (zA (zB (zP (zK 400 ?_))));refine zB (zE zJ [] 500 rfl ?_);refine zF ?_;refine zQ _ (H _ (by rw[wW c2];exact Cj _)) rfl ?_;refine zF ?_;refine zC (zA (zZ (fun c4=>?_) (fun c4=>?_)))
  ·
   refine zK 600 ?_;refine zL (zR (zO (yQ (zR (zO ?_)))));exact u4 rfl (u10 (cX0 x.all (wX0 c2 vl0) c4).symm)
  ·
   refine zM (zN (zA (yM zJ [] 700 ?_)));exact zS (x.next (e:=vl0) c2 (by rw[c4];rfl)) ⟨yG,yF,rfl,rfl⟩ (by show l.length-(x.k+1)<l.length-x.k;omega)
 ·have c2:¬x.k<l.length:=by simpa using c2
  refine yE (yA (yB (zY (zA (zK 800 ?_)))));refine zL ?_;exact u4 rfl (u10 (tQ (fun y hy=>by
    have:=Bl.1 (x.yes c2) y hy;simpa using this)).symm)
theorem placeC_ok(h:List Ob)(w k:Vl)(hh:HpIn h)(g:Uh h)(hk:vG h k=true)(hv:Vd h k)(hw:Vd h w):Fx 97 [.agg (vlD w),cpD md h,vpD k] (.v (.bool (smK h 1001 w k))):=by
 refine yD zJ Tryz.func97 rfl rfl rfl rfl rfl rfl ?_;intros;refine zK 100 ?_;refine zB (zE zJ [] 200 rfl ?_);refine zF ?_;refine zQ _ ((heapKey_ok hh g hk hv hw).out (u7 (pG h 1001 k w))) rfl ?_;refine zf (zA (zL ?_));exact u4 rfl (u6 _)
theorem dY(h:List Ob)(l:List Vl)(k:Vl)(hh:HpIn h)(g:Uh h)(hk:vG h k=true)(hv:Vd h k)(hl:∀x∈l,Vd h x):Fx 47 [hpD md h,.sl me 7 l vlD vl0,.agg (vlD k)] (.v (.int .i64 (plI h l k))):=by
 refine yD zJ Tryz.func47 rfl rfl rfl rfl rfl rfl ?_;intros;refine zK 100 ?_;refine zB (zE zJ [] 200 rfl ?_);refine zF ?_;refine yZ _ (IndexFuncV_ok h l k fun x hx=>placeC_ok h x k hh g hk hv (hl x hx)) rfl rfl ?_;refine zf (zA (zL ?_));exact u4 rfl (u6 _)
theorem getD_m{l:List Vl}{i:Nat}(hi:i<l.length):l.getD i vl0∈l:=by
 rw[Af,Ac hi];exact Cj _
variable{md me:Bool}
def unJ(h:List Ob)(x y:Ob)(i:Nat):List Vl:=(List.range x.keys.length).map (unF h x y y.keys)++((List.range i).filter (unP h x y)).map fun i=>y.items.getD i vl0
theorem unJ_all(h:List Ob)(x y:Ob):unJ h x y y.keys.length=unI h x y y.keys.length:=by
 rw[unJ,unI,Ai (Ar _)]
theorem unJ_len(h:List Ob)(x y:Ob)(i:Nat):(unJ h x y i).length=(unK h x y i).length:=by
 rw[unJ,unK,Ae,Ae,An,An,An,Du]
theorem un_yes{h:List Ob}{x y:Ob}{i:Nat}(h0:plI h x.keys (y.keys.getD i vl0)<0):unK h x y (i+1)=unK h x y i++[y.keys.getD i vl0]/\unJ h x y (i+1)=unJ h x y i++[y.items.getD i vl0]:=by
 have hp:unP h x y i=true:=Bf h0;rw[unK,unK,unJ,unJ,jZ1 hp,Ad,Ad,<-Cg,<-Cg];exact⟨rfl,rfl⟩
theorem un_no{h:List Ob}{x y:Ob}{i:Nat}(h0:¬plI h x.keys (y.keys.getD i vl0)<0):unK h x y (i+1)=unK h x y i/\unJ h x y (i+1)=unJ h x y i:=by
 have hp:¬unP h x y i=true:=by rw[unP,Ce h0];decide
 rw[unK,unK,unJ,unJ,tK0 hp];exact⟨rfl,rfl⟩
theorem kT(f:Nat->Vl)(i:Nat):(List.range (i+1)).map f=(List.range i).map f++[f i]:=by rw[Ec,Ad];rfl
theorem pD{l:List Vl}{i:Nat}(hi:i<l.length):l.take (i+1)=l.take i++[l.getD i vl0]:=by
 rw[Dh hi,Af,Ac hi];rfl
theorem kG(l:List Vl)(v:Vl):(l++[v]).map vlD=l.map vlD++[vlD v]:=by rw[Ad];rfl
theorem xL1(h:List Ob)(x y:Ob):unK h x y 0=x.keys:=by simp[unK]
theorem xM1(h:List Ob)(x y:Ob):unJ h x y 0=(List.range x.keys.length).map (unF h x y y.keys):=by simp[unJ]
theorem wF1{P:Program}{E:Pn}{K:DS->Prop}{p:Prop}{r:Out}(hr:r.sat P E K)(hp:p:=by first|(simp only[An,Am,Au,Ae,Du,As];omega)|(simp only[An,Am,Au];omega)|exact⟨by omega,by omega⟩|exact Fa):(Out.need p r).sat P E K:=⟨hp,hr⟩
set_option maxHeartbeats 1000000 in
theorem united_ok(h:List Ob)(x y:Ob)(hh:HpIn h)(g:Uh h)(kx:Kd h x.keys)(ky:Kd h y.keys)(hxl:x.items.length=x.keys.length)(hyl:y.items.length=y.keys.length)(hx:x.keys.length<=1000000)(hy:y.keys.length<=1000000):Fx 94 [hpD md h,.agg (obD x),.agg (obD y)] (.agg (obD (unO h x y))):=by
 refine yD zJ Tryz.func94 rfl rfl rfl rfl rfl rfl ?_;intros;refine zK 100 ?_;refine zK 200 ?_;refine vN 101 7 29 7 rfl rfl ?_;refine vN 101 6 29 7 rfl rfl ?_;refine zB (zK 300 ?_);refine zP ?_;refine yC (ι:={i:Nat//i<=x.keys.length}) [3,4,5,6,7,16,17] [0,1,2,3] 350 (fun a=>[(18,.v (.int .i64 a.1))]) (fun a=>[(101,.box 50 [.v (.int .i64 3),.v (.string ByteArray.empty),.v (.int .i64 0),.v (.slice none 0 0),.v (.slice none 0 0),.v (.slice none 0 0),.own 201 7 (((List.range a.1).map (unF h x y y.keys)).map vlD),.own 200 7 ((x.keys.take a.1).map vlD),.v (.int .i64 0),.v (.int .i64 0)]),(200,.row 29 7 ((x.keys.take a.1).map vlD).length),(201,.row 29 7 (((List.range a.1).map (unF h x y y.keys)).map vlD).length)]) (fun a=>x.keys.length-a.1) ⟨0,Aq _⟩ ?_;refine⟨⟨⟨u21 rfl,yG⟩,⟨⟨rfl,u0 _,rfl,u0 _,rfl,u0 _,rfl,u0 _,rfl,u0 _,rfl,u0 _,rfl,u0 _,rfl,u0 _,rfl,u0 _,rfl,u0 _,rfl,trivial⟩,⟨rfl,rfl,rfl⟩,⟨rfl,rfl,rfl⟩,yF⟩,rfl,rfl⟩,fun a=>?_⟩;have hk1:a.1<=x.keys.length:=a.2;refine zK 400 ?_;refine zB (zU rfl (fun c3=>?_) (fun c3=>?_))
 ·have hlt:a.1<x.keys.length:=by simpa using c3
  refine zM (zA (zB (zP (zK 500 ?_))));refine yL [3,4,5,6,7,8,9,16,17,18] [0,1,2,3,101,200,201,403] 510 [] [(403,.box 29 (vlD (x.keys.getD a.1 vl0)))] ?_;refine⟨⟨yG,⟨⟨rfl,SubL.same rfl⟩,yF⟩,rfl,rfl⟩,?_⟩;refine zB (zE zJ [] 600 rfl ?_);repeat(first|refine zH ?_|refine zW (by first|exact⟨by omega,by omega⟩|exact Fa) ?_)
  refine zC (zA (zB ?_));refine yL [3,4,5,6,7,9,10,16,17,18] [0,1,2,3,101,200,201,403,515] 610 [] [(515,.box 29 (vlD (x.items.getD a.1 vl0)))] ?_;refine⟨⟨yG,⟨⟨rfl,SubL.same rfl⟩,yF⟩,rfl,rfl⟩,?_⟩;refine zB (zE zJ [] 700 rfl ?_);refine zF ?_;refine zQ _ (dF h y.keys _ hh (fun k hk=>gF (ky.keyed k hk))) rfl ?_;refine zF ?_;refine zC (zA (zK 800 ?_));refine zZ (fun c7=>?_) (fun c7=>?_)
  ·
   refine zE zJ [] 900 rfl ?_;repeat(first|refine zH ?_|refine zW (by first|exact⟨by omega,by have:=mQ (l:=y.keys) (k:=x.keys.getD a.1 vl0) (by omega);omega⟩|exact Fa) ?_)
   refine zC (zA ?_);refine yL [3,4,5,6,7,9,10,16,17,18] [0,1,2,3,101,200,201,403,515] 910 [] [(515,.box 29 (vlD (unF h x y y.keys a.1)))] ?_;refine⟨⟨yG,⟨by rw[show(unF h x y y.keys a.1)=_ from Ab c7];exact⟨rfl,SubL.same rfl⟩,yF⟩,rfl,rfl⟩,?_⟩;refine zX zJ [] mK19 1000 yP kr rfl ?_;repeat(first|refine zH ?_|refine wF1 ?_)
   refine zC (zN (zA (yM zJ [] 1100 ?_)));exact zS ⟨a.1+1,by omega⟩ ⟨⟨u21 (by push_cast;rfl),yG⟩,⟨⟨rfl,u0 _,rfl,u0 _,rfl,u0 _,rfl,u0 _,rfl,u0 _,rfl,u0 _,rfl,Sub.own (by rw[kT];exact(kG _ _).symm),rfl,Sub.own (by rw[pD hlt];exact(kG _ _).symm),rfl,u0 _,rfl,u0 _,rfl,trivial⟩,⟨rfl,rfl,by rw[pD hlt];simp⟩,⟨rfl,rfl,by rw[kT];simp⟩,yF⟩,rfl,rfl⟩ (by show x.keys.length-(a.1+1)<x.keys.length-a.1;omega)
  ·
   refine zM (zA ?_);refine yL [3,4,5,6,7,9,10,16,17,18] [0,1,2,3,101,200,201,403,515] 810 [] [(515,.box 29 (vlD (unF h x y y.keys a.1)))] ?_;refine⟨⟨yG,⟨by rw[show(unF h x y y.keys a.1)=_ from Aa (by simpa using c7)];exact⟨rfl,SubL.same rfl⟩,yF⟩,rfl,rfl⟩,?_⟩;refine zX zJ [] mK19 1000 yP kr rfl ?_;repeat(first|refine zH ?_|refine wF1 ?_)
   refine zC (zN (zA (yM zJ [] 1100 ?_)));exact zS ⟨a.1+1,by omega⟩ ⟨⟨u21 (by push_cast;rfl),yG⟩,⟨⟨rfl,u0 _,rfl,u0 _,rfl,u0 _,rfl,u0 _,rfl,u0 _,rfl,u0 _,rfl,Sub.own (by rw[kT];exact(kG _ _).symm),rfl,Sub.own (by rw[pD hlt];exact(kG _ _).symm),rfl,u0 _,rfl,u0 _,rfl,trivial⟩,⟨rfl,rfl,by rw[pD hlt];simp⟩,⟨rfl,rfl,by rw[kT];simp⟩,yF⟩,rfl,rfl⟩ (by show x.keys.length-(a.1+1)<x.keys.length-a.1;omega)
 ·have hke:a.1=x.keys.length:=by simp at c3;omega
  refine yE (yA (yB (zY (zA (zB (zK 1200 ?_))))));refine zP ?_;refine yC (ι:={i:Nat//i<=y.keys.length}) [3,4,5,6,7,54,55] [0,1,2,3] 1250 (fun z=>[(56,.v (.int .i64 z.1))]) (fun z=>[(101,.box 50 [.v (.int .i64 3),.v (.string ByteArray.empty),.v (.int .i64 0),.v (.slice none 0 0),.v (.slice none 0 0),.v (.slice none 0 0),.own 201 7 ((unJ h x y z.1).map vlD),.own 200 7 ((unK h x y z.1).map vlD),.v (.int .i64 0),.v (.int .i64 0)]),(200,.row 29 7 ((unK h x y z.1).map vlD).length),(201,.row 29 7 ((unJ h x y z.1).map vlD).length)]) (fun z=>y.keys.length-z.1) ⟨0,Aq _⟩ ?_;refine⟨⟨⟨u21 rfl,yG⟩,⟨⟨rfl,u0 _,rfl,u0 _,rfl,u0 _,rfl,u0 _,rfl,u0 _,rfl,u0 _,rfl,Sub.own (by rw[xM1,hke]),rfl,Sub.own (by rw[xL1,hke,List.take_length]),rfl,u0 _,rfl,u0 _,rfl,trivial⟩,⟨rfl,rfl,by rw[xL1,hke,List.take_length]⟩,⟨rfl,rfl,by rw[xM1,hke]⟩,yF⟩,rfl,rfl⟩,fun z=>?_⟩;have hk2:z.1<=y.keys.length:=z.2;refine zK 1300 ?_;refine zB (zU rfl (fun c12=>?_) (fun c12=>?_))
  ·have hlt2:z.1<y.keys.length:=by simpa using c12
   have hkl:=unK_len h x y z.1;have hil:=unJ_len h x y z.1;refine zM (zA (zB (zP (zK 1400 ?_))));refine yL [3,4,5,6,7,12,13,54,55,56] [0,1,2,3,101,200,201,1303] 1410 [] [(1303,.box 29 (vlD (y.keys.getD z.1 vl0)))] ?_;refine⟨⟨yG,⟨⟨rfl,SubL.same rfl⟩,yF⟩,rfl,rfl⟩,?_⟩;refine zB (zE zJ [] 1500 rfl ?_);refine zF ?_;refine zQ _ (dF h x.keys _ hh (fun k hk=>gF (kx.keyed k hk))) rfl ?_;refine zF ?_;refine zC (zA (zZ (fun c14=>?_) (fun c14=>?_)))
   ·
    refine zX zJ [] [[],[0],[],[2],[0,1,2,3],[],[5],[],[7],[],[7,8,9],[7,8,9,10],[7,8,9,10,11],(rgN 13),(rgN 7),(rgN 15),(rgN 16),(rgN 17)] 1600 yP kr rfl ?_;repeat(first|refine zH ?_|refine wF1 ?_)
    refine zC (zN (zA (yM zJ [] 1700 ?_)));have hN:=un_yes (h:=h) (x:=x) (y:=y) c14;exact zS ⟨z.1+1,by omega⟩ ⟨⟨u21 (by push_cast;rfl),yG⟩,⟨⟨rfl,u0 _,rfl,u0 _,rfl,u0 _,rfl,u0 _,rfl,u0 _,rfl,u0 _,rfl,Sub.own (by rw[hN.2];exact(kG _ _).symm),rfl,Sub.own (by rw[hN.1];exact(kG _ _).symm),rfl,u0 _,rfl,u0 _,rfl,trivial⟩,⟨rfl,rfl,by rw[hN.1];simp⟩,⟨rfl,rfl,by rw[hN.2];simp⟩,yF⟩,rfl,rfl⟩ (by show y.keys.length-(z.1+1)<y.keys.length-z.1;omega)
   ·
    refine zM (zN (zA (yM zJ [] 1700 ?_)));have hN:=un_no (h:=h) (x:=x) (y:=y) (i:=z.1) (by simpa using c14);exact zS ⟨z.1+1,by omega⟩ ⟨⟨u21 (by push_cast;rfl),yG⟩,⟨⟨rfl,u0 _,rfl,u0 _,rfl,u0 _,rfl,u0 _,rfl,u0 _,rfl,u0 _,rfl,Sub.own (by rw[hN.2]),rfl,Sub.own (by rw[hN.1]),rfl,u0 _,rfl,u0 _,rfl,trivial⟩,⟨rfl,rfl,by rw[hN.1]⟩,⟨rfl,rfl,by rw[hN.2]⟩,yF⟩,rfl,rfl⟩ (by show y.keys.length-(z.1+1)<y.keys.length-z.1;omega)
  ·have hke2:z.1=y.keys.length:=by simp at c12;omega
   refine yE (yA (yB (zY (zA (zK 1800 ?_)))));refine zL ?_;exact u4 rfl (u20 ⟨u6 _,u6 _,u6 _,u12 rfl,u12 rfl,u12 rfl,SubP.ownSl (by rw[hke2,unJ_all];rfl),SubP.ownSl (by rw[hke2];rfl),u6 _,u6 _,trivial⟩)
variable{md me:Bool}
theorem wZ{h:List Ob}{n:Nat}{o:Ob}{row:List D}(hr:D.pvs row=D.pvs (obD o)):D.pvss ((h.map obD).set n row)=D.pvss ((h.set n o).map obD):=by
 rw[yS,yS,List.map_set,hr,Cw,Cw,List.map_set];rfl
theorem tR(o:Ob)(k:Nat)(l:List Vl):D.pvs ((obD o).take 6++[.own k 7 (l.map vlD)]++(obD o).drop 7)=D.pvs (obD {o with items:=l}):=by
 show D.pvs [_,_,_,_,_,_,D.own k 7 (l.map vlD),_,_,_]=D.pvs [_,_,_,_,_,_,D.sl false 7 l vlD vl0,_,_,_];simp only[D.pvs,D.pv,yS,Cw];rfl
theorem mA{h:List Ob}(g:Uh h){v:Vl}(hk:(zT h v).kind=3):(zT h v).items.length=(zT h v).keys.length:=by
 obtain⟨h6,ho,e⟩:=jR (h:=h) (v:=v) om;rw[e]at hk⊢;have hin:=yW ho;have h49:¬v.r.toNat<49:=fun hl=>by
  rw[show yJ h v.r=bgO v.r.toNat from g.lo_at hl]at hk;exact absurd hk (by show ¬(9:Int)=3;decide)
 have u:=g.hi_at (i:=v.r.toNat) om hin.2;rw[<-wE hin]at u;have h1:=(gN0 u.shape).1;unfold cntS at h1;rw[hk,Aa (by decide+kernel),Aa (by decide+kernel),Aa (by decide+kernel),Ab (by decide+kernel)]at h1;omega
theorem uO{h:List Ob}(g:Uh h)(v:Vl):(zT h v).keys.length<=1000/\(zT h v).items.length<=1000:=by
 by_cases hk:(zT h v).kind=0
 ·unfold zT at hk⊢;split
  ·rename_i h1;have:=h1.2;simp only[qA,Aj,Bq,Ay]at this;rw[Ab h1]at hk;exact absurd hk this.2
  ·exact⟨by decide,by decide⟩
 ·obtain⟨h6,ho,e⟩:=jR (h:=h) (v:=v) hk;rw[e];have hin:=yW ho;by_cases h49:v.r.toNat<49
  ·rw[show yJ h v.r=bgO v.r.toNat from g.lo_at h49];exact⟨Aq _,Aq _⟩
  ·have u:=g.hi_at (i:=v.r.toNat) om hin.2;rw[<-wE hin]at u;have hz:=u.sizes;unfold wD at hz;split at hz
   ·cases hz
   ·split at hz
    ·cases hz
    ·rename_i h2;simp only[Dl,Ap,not_or]at h2;obtain⟨h3,h4⟩:=h2;unfold mx3 at h3;repeat' split at h3
     all_goals omega
theorem yY1(s:St)(h:List Ob):chkG 2 (.agg (stD s)) (hpO h)=true:=rfl
theorem xY0{h:List Ob}{n:Nat}{o:Ob}{r1 r2:List D}(hr:D.pvs r2=D.pvs (obD o)):D.pvss (((h.map obD).set n r1).set n r2)=D.pvss ((h.set n o).map obD):=by
 rw[List.set_set];exact wZ hr
theorem pZ0{h:List Ob}{v:Vl}(hk:(zT h v).kind=3\/(zT h v).kind=4):v.k=6/\qA h v.r=true:=by
 obtain⟨h6,ho,_⟩:=jR (h:=h) (v:=v) om;exact⟨h6,ho⟩
def paF(g:Vl->Int->Vl×Bool×Int)(v:Vl):List Vl->Int->Vl×Bool×Int
 |[],left=>(v,true,left)
 |w::l,left=>if left<0 then(v,true,left)else if(g w left).2.1=false then((g w left).1,false,(g w left).2.2)else paF g v l (g w left).2.2
def paP(h:List Ob)(g:Vl->Int->Vl×Bool×Int)(v:Vl)(left:Int):Vl×Bool×Int:=
 if(zT h v).kind=2\/(zT h v).kind=3\/(zT h v).kind=4\/(zT h v).kind=5 then(v,decide (left-1<0),left-1)
 else if(zT h v).kind=1 then paF g v (zT h v).items (left-1)else(v,true,left-1)
def paS(h:List Ob):Nat->Vl->Int->Vl×Bool×Int
 |0=>fun v _=>(v,true,-1)
 |f+1=>paP h (paS h f)
structure PaO(h:List Ob)(left:Int)(l rest out:List Vl)(r:Vl×Bool×Int):Prop where
 lo: -1<=r.2.2
 hi:r.2.2<=left
 no:r.2.1=false->0<=r.2.2/\∃L,ptS h (left+1).toNat (l++rest) out=(out++L++[r.1],false)/\(L.length:Int)+1=left-r.2.2
 yes:r.2.1=true->0<=r.2.2->∃L,ptS h (left+1).toNat (l++rest) out=ptS h (r.2.2+1).toNat rest (out++L)/\(L.length:Int)=left-r.2.2
 end_:r.2.1=true->r.2.2<0->∃L b,ptS h (left+1).toNat (l++rest) out=(out++L,b)/\(L.length:Int)=left+1
section
variable{h:List Ob}(g:Uh h)
include g
omit g in
theorem cZ0{F:Vl->Int->Vl×Bool×Int}(v:Vl):∀(l:List Vl)(left:Int)(rest out:List Vl),-1<=left->(∀w∈l,∀(k:Int)(rest out:List Vl),0<=k->k<=left->PaO h k [w] rest out (F w k))->PaO h left l rest out (paF F v l left)
 |[],left,rest,out,h1,_=>by
  refine⟨h1,Int.le_refl _,(fun hh=>by cases hh),fun _ h0=>⟨[],by rw[Cr];rfl,by show(0:Int)=left-left;omega⟩,fun _ h0=>⟨[],true,?_,by show(0:Int)=left+1;have h0:left<0:=h0;omega⟩⟩;have h0:left<0:=h0;rw[show(left+1).toNat=0 by omega,Cr];rfl
 |w::l,left,rest,out,h1,hF=>by
  by_cases c1:left<0
  ·have e:paF F v (w::l) left=(v,true,left):=by rw[paF,Ab c1]
   rw[e];refine⟨h1,Int.le_refl _,(fun hh=>by cases hh),fun _ h0=>absurd h0 (by show ¬(0:Int)<=left;omega),fun _ _=>⟨[],true,?_,by simp;omega⟩⟩;rw[show(left+1).toNat=0 by omega,Cr];rfl
  ·have hw:=hF w Bc left (l++rest) out om (Int.le_refl _);have hlo:=hw.lo;have hhi:=hw.hi;by_cases c2:(F w left).2.1=false
   ·have e:paF F v (w::l) left=((F w left).1,false,(F w left).2.2):=by rw[paF,Aa c1,Ab c2]
    rw[e];refine⟨hlo,hhi,fun _=>hw.no c2,(fun hh=>by cases hh),(fun hh=>by cases hh)⟩
   ·have c2':(F w left).2.1=true:=by simpa using c2
    have e:paF F v (w::l) left=paF F v l (F w left).2.2:=by rw[paF,Aa c1,Aa c2]
    rw[e];by_cases c3:(F w left).2.2<0
    ·obtain⟨L,b,e1,e2⟩:=hw.end_ c2' c3;have hm:(F w left).2.2= -1:=by omega
     have e3:paF F v l (F w left).2.2=(v,true,(F w left).2.2):=by
      cases l with
      |nil=>rfl
      |cons x l=>rw[paF,Ab c3]
     rw[e3];exact⟨hlo,hhi,(fun hh=>by cases hh),fun _ h0=>absurd (show 0<=(F w left).2.2 from h0) om,fun _ _=>⟨L,b,e1,e2⟩⟩
    ·obtain⟨L,e1,e2⟩:=hw.yes c2' om;have e1:ptS h (left+1).toNat (w::l++rest) out=ptS h ((F w left).2.2+1).toNat (l++rest) (out++L):=e1;have ih:=cZ0 v l (F w left).2.2 rest (out++L) hlo fun x hx k rest out h0 hk=>hF x (Be _ hx) k rest out h0 om;refine⟨ih.lo,by have:=ih.hi;omega,fun hb=>?_,fun hb h0=>?_,fun hb h0=>?_⟩
     ·obtain⟨a1,L2,a2,a3⟩:=ih.no hb;exact⟨a1,L++L2,by rw[e1,a2];simp,by rw[Ae];push_cast;omega⟩
     ·obtain⟨L2,a2,a3⟩:=ih.yes hb h0;exact⟨L++L2,by rw[e1,a2];simp,by rw[Ae];push_cast;omega⟩
     ·obtain⟨L2,b,a2,a3⟩:=ih.end_ hb h0;exact⟨L++L2,b,by rw[e1,a2];simp,by rw[Ae];push_cast;omega⟩
theorem gT0:∀(f:Nat)(v:Vl)(left:Int)(rest out:List Vl),Vd h v->0<=left->left<f->PaO h left [v] rest out (paS h f v left)/\(paS h f v left).2.2<left
 |0,_,left,_,_,_,h0,h1=>by omega
 |f+1,v,left,rest,out,hv,h0,h1=>by
  have h9:¬v.k=9:=fun hk=>by
   have:=hv.1;unfold qH at this;rw[Aa om,Aa om,Aa om,Aa om,Aa om,Aa om,Aa om,Aa om]at this
   cases this
  have ef:(left+1).toNat=(left-1+1).toNat+1:=by omega
  rw[paS,paP];by_cases c1:(zT h v).kind=2\/(zT h v).kind=3\/(zT h v).kind=4\/(zT h v).kind=5
  ·have hb:badS h v=true:=by
    unfold badS;simp only[Dl,Ap];omega
   have e:ptS h (left+1).toNat ([v]++rest) out=(out++[v],false):=by
    rw[ef];show ptS h _ (v::rest) out=_;rw[gB,Ab hb]
   rw[Ab c1];refine⟨⟨by show-1<=left-1;omega,by show left-1<=left;omega,fun hh=>?_,fun hh h2=>?_,fun hh h2=>⟨[v],false,e,?_⟩⟩,by show left-1<left;omega⟩
   ·have hh:¬left-1<0:=of_decide_eq_false hh;exact⟨by show 0<=left-1;omega,[],by rw[e,Cr],by show(0:Int)+1=left-(left-1);omega⟩
   ·have hh:left-1<0:=Ag hh;have h2:0<=left-1:=h2;omega
   ·have h2:left-1<0:=h2;show(1:Int)=left+1;omega
  ·have hb:¬badS h v=true:=by
    unfold badS;simp only[Dl,Ap];omega
   rw[Aa c1];by_cases c2:(zT h v).kind=1
   ·rw[Ab c2];have hl:=(uO g v).2;have e:ptS h (left+1).toNat ([v]++rest) out=ptS h (left-1+1).toNat ((zT h v).items++rest) (out++[v]):=by
     rw[ef];show ptS h _ (v::rest) out=_;rw[gB,Aa hb,Ab c2,Ai om]
    have hit:∀w∈(zT h v).items,Vd h w:=fun w hw=>by
     obtain⟨h6,ho,eo⟩:=jR (h:=h) (v:=v) om;rw[eo]at hw c2;exact⟨pX0 g ho c2 hw,kA0 g ho hw⟩
    have ih:=cZ0 (F:=paS h f) v (zT h v).items (left-1) rest (out++[v]) om fun w hw k rest out hk0 hk=>(gT0 f w k rest out (hit w hw) hk0 om).1;have hhi:=ih.hi;refine⟨⟨ih.lo,by omega,fun hb=>?_,fun hb h2=>?_,fun hb h2=>?_⟩,by omega⟩
    ·obtain⟨a1,L,a2,a3⟩:=ih.no hb;exact⟨a1,v::L,by rw[e,a2];simp,by rw[Am];push_cast;omega⟩
    ·obtain⟨L,a2,a3⟩:=ih.yes hb h2;exact⟨v::L,by rw[e,a2];simp,by rw[Am];push_cast;omega⟩
    ·obtain⟨L,b,a2,a3⟩:=ih.end_ hb h2;exact⟨v::L,b,by rw[e,a2];simp,by rw[Am];push_cast;omega⟩
   ·rw[Aa c2];have e:ptS h (left+1).toNat ([v]++rest) out=ptS h (left-1+1).toNat rest (out++[v]):=by
     rw[ef];show ptS h _ (v::rest) out=_;rw[gB,Aa hb,Aa c2]
    refine⟨⟨by show-1<=left-1;omega,by show left-1<=left;omega,(fun hh=>by cases hh),fun _ _=>⟨[v],e,by show(1:Int)=left-(left-1);omega⟩,fun _ h2=>⟨[v],true,?_,?_⟩⟩,by show left-1<left;omega⟩
    ·have h2:left-1<0:=h2;rw[e,show(left-1+1).toNat=0 by omega];rfl
    ·have h2:left-1<0:=h2;show(1:Int)=left+1;omega
theorem pa_key{v:Vl}(hv:Vd h v):((paS h 1001 v 1000).2.1=false->(qM h v).2=false/\(qM h v).1.length<=1000/\(qM h v).1.getD ((qM h v).1.length-1) vl0=(paS h 1001 v 1000).1)
  /\((paS h 1001 v 1000).2.1=true->(paS h 1001 v 1000).2.2<0->1000<(qM h v).1.length)/\((paS h 1001 v 1000).2.1=true->0<=(paS h 1001 v 1000).2.2->vG h v=true):=by
 have hp:=(gT0 g 1001 v 1000 [] [] hv de de).1;have e:ptS h ((1000:Int)+1).toNat ([v]++[]) []=qM h v:=rfl;refine⟨fun hb=>?_,fun hb h0=>?_,fun hb h0=>?_⟩
 ·obtain⟨a1,L,a2,a3⟩:=hp.no hb;rw[e,Dq]at a2;rw[a2];refine⟨rfl,?_,?_⟩
  ·show(L++[_]).length<=1000;rw[Ae,Co];omega
  ·show(L++[(paS h 1001 v 1000).1]).getD ((L++[_]).length-1) vl0=_;rw[Ae,Co,Nat.add_sub_cancel,Af,Cs (Ar _),Nat.sub_self];rfl
 ·obtain⟨L,b,a2,a3⟩:=hp.end_ hb h0;rw[e,Dq]at a2;rw[a2];show 1000<L.length;omega
 ·obtain⟨L,a2,a3⟩:=hp.yes hb h0;rw[e,Dq]at a2;have a4:ptS h ((paS h 1001 v 1000).2.2+1).toNat [] L=(L,true):=by
   rw[show((paS h 1001 v 1000).2.2+1).toNat=(paS h 1001 v 1000).2.2.toNat+1 by omega];rfl
  rw[a4]at a2;rw[vG,a2];show(true&&decide ((L.length:Int)<=1000))=true;rw[Dm,Ap];omega
end
end Go.Proofs.YtammfbdgjnkolaaGreatDoor
