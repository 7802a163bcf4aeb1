/-Part 27 of the proof. -/
import Derived.Test.YtammfbdgjnkolaaGreatDoorM26
namespace Go.Proofs.YtammfbdgjnkolaaGreatDoor
open Go.RowKit
variable{md me:Bool}
theorem jX1{v:Vl}(hg:Lg v.nl)(h:qH v=true):uH v.nn v.nl=true:=by
 have hz:∀{b:Bool}{l:List Nat},zI b l=true->uH b l=true:=fun h=>by rw[zI,jJ0]at h;rw[h.1,h.2];rfl
 unfold qH at h;repeat' split at h
 all_goals (try simp only[Aj,Ap]at h)
 ·exact hz h.1.1.1
 ·exact hz h.1.1.1
 ·exact h.1.1.1
 ·have hr:=h.1.1.1;simp only[ratS,Aj]at hr;exact hr.1.1.1
 ·exact hz h.1.1.1.1
 ·exact hz h.1.1.1
 ·exact hz h.1.1.1
 ·exact hz h.1.1
 ·cases h
def pxI(v:Vl):Int:=ZI v.nn (VL v.nl)
theorem gM1{v:Vl}(hg:Lg v.nl)(h:qH v=true):[D.v (.bool v.nn),usD v.nl]=zV (pxI v)/\(lim (pxI v).natAbs).length<=128:=by
 obtain⟨a1,a2,a3⟩:=pR hg (jX1 hg h);have e:(pxI v).natAbs=VL v.nl:=xR _ _;rw[e,<-a1];refine⟨?_,a3⟩;unfold zV;rw[e,<-a1];exact congrArg (fun b=>[D.v (.bool b),usD v.nl]) a2
def pxTB:ByteArray:=⟨#[105,110,100,101,120,32,109,117,115,116,32,98,101,32,97,110,32,105,110,116,101,103,101,114]⟩
def pxRB:ByteArray:=⟨#[105,110,100,101,120,32,111,117,116,32,111,102,32,114,97,110,103,101]⟩
def pxJ(z n:Int):Int:=if z<0 then z+n else z
def pxB(z n:Int):Bool:=decide (0<=pxJ z n)&&decide (pxJ z n<n)
def pxQ(z n:Int):Int:=if pxB z n=true then pxJ z n else 0
def pxC(z n:Int):Int:=if pxB z n=true then 0 else 4
def pxE(z n:Int):Int:=if pxB z n=true then 0 else-1
theorem qE0(b:Bool)(n:Nat):(b&&decide (0<n))=decide (ZI b n<0):=by
 cases b with
 |false=>rw[Ch];exact(Ce (by show ¬((n:Nat):Int)<0;omega)).symm
 |true=>rw[Dm];exact decide_eq_decide.2 (by show 0<n↔ -((n:Nat):Int)<0;omega)
theorem dV0{x y:Int}:cmpI x y<=0↔x<=y:=by unfold cmpI;split<;>(try split)<;>omega
theorem mB{x y:Int}:0<=cmpI x y↔y<=x:=by unfold cmpI;split<;>(try split)<;>omega
theorem zOk1{z:Int}(hz:(lim z.natAbs).length<=128):∀k<[(decide (z<0),lim z.natAbs)].length,uH ([(decide (z<0),lim z.natAbs)].getD k (false,[])).1 ([(decide (z<0),lim z.natAbs)].getD k (false,[])).2=true/\([(decide (z<0),lim z.natAbs)].getD k (false,[])).2.length<=2000000:=fun k hk=>by
 have h0:k=0:=by simp at hk;omega
 subst h0;exact⟨zOk hz,by show(lim z.natAbs).length<=2000000;omega⟩
theorem dig_one{n:Nat}(h:n<65536):dig n=if n=0 then []else [n]:=by
 unfold dig;split
 ·rfl
 ·rw[Dr h,Ei h];unfold dig;rfl
def clZ(z a b:Int):Int:=if z<a then a else if b<z then b else z
def smB(z:Int):Bool:=decide (-9223372036854775808<=z)&&decide (z<=9223372036854775807)
def smQ(z:Int):Int:=if smB z=true then z else 0
def smC(z:Int):Int:=if smB z=true then 0 else 14
def smE(z:Int):Int:=if smB z=true then 0 else-1
theorem pxB_iff{z n:Int}:pxB z n=true↔0<=pxJ z n/\pxJ z n<n:=by simp[pxB]
theorem px_1{z n:Int}(h0:0<=n)(c:clZ z (-n-1) n<0):(pxB z n=true↔0<=clZ z (-n-1) n+n)/\(pxB z n=true->pxJ z n=clZ z (-n-1) n+n)/\ -n-1<=clZ z (-n-1) n:=by
 rw[pxB_iff];unfold pxJ;unfold clZ at*;split at c
 ·split<;>(try split)<;>omega
 ·split at c<;>split<;>(try split)<;>omega
theorem px_2{z n:Int}(h0:0<=n)(c:¬clZ z (-n-1) n<0):(pxB z n=true↔clZ z (-n-1) n<n)/\(pxB z n=true->pxJ z n=clZ z (-n-1) n)/\clZ z (-n-1) n<=n:=by
 rw[pxB_iff];unfold pxJ;unfold clZ at*;split at c
 ·omega
 ·split at c<;>split<;>(try split)<;>omega
theorem px_y{z n:Int}(c:pxB z n=true):pxQ z n=pxJ z n/\pxC z n=0/\pxE z n=0:=⟨Ab c,Ab c,Ab c⟩
theorem px_n{z n:Int}(c:¬pxB z n=true):pxQ z n=0/\pxC z n=4/\pxE z n= -1:=⟨Aa c,Aa c,Aa c⟩
def poS(v:Vl)(n:Int):St:=if ¬v.k=2 then raS 32 pxTB else if pxB (pxI v) n=true then st0 else raS 38 pxRB
def poQ(v:Vl)(n:Int):Int:=if v.k=2 then pxQ (pxI v) n else 0
theorem smB_iff{z:Int}:smB z=true↔ -9223372036854775808<=z/\z<=9223372036854775807:=by simp[smB]
def loU(l:List Nat)(k:Nat):Nat:=if k=0 then 0 else if k=1 then l.getD 0 0 else l.getD 0 0+4294967296*l.getD 1 0
theorem loU_lt{l:List Nat}(hg:Lg l){k:Nat}(hk:k<=2):loU l k<18446744073709551616:=by
 have h0:=qG hg 0;have h1:=qG hg 1;unfold loU;split
 ·omega
 ·split<;>omega
theorem loU_or{l:List Nat}(hg:Lg l){k:Nat}(hk:k<=1):bOr .u64 ((loU l k:Nat):Int) (IntKind.u64.wrap (IntKind.u64.wrap ((l.getD k 0:Nat):Int)*2^min (Int.toNat (32*(k:Int))) IntKind.u64.bits))=((loU l (k+1):Nat):Int):=by
 have h0:=qG hg 0;have h1:=qG hg 1;rcases(show k=0\/k=1 by omega)with rfl|rfl
 ·have e:min (Int.toNat (32*((0:Nat):Int))) IntKind.u64.bits=0:=by decide
  rw[e,w64 om,Int.pow_zero,Int.mul_one,w64 om];show IntKind.u64.wrap ((BitVec.ofInt 64 ((0:Nat):Int)|||BitVec.ofInt 64 ((l.getD 0 0:Nat):Int)).toNat:Int)=((l.getD 0 0:Nat):Int);rw[BitVec.ofInt_natCast,BitVec.ofInt_natCast,BitVec.toNat_or,BitVec.toNat_ofNat,BitVec.toNat_ofNat,Dr om,Dr om,Nat.zero_or,w64 om]
 ·have e:Int.toNat (32*((1:Nat):Int))=Int.toNat 32:=by decide
  rw[e];have h:=gP1 h1 h0;rw[w64 (n:=l.getD 0 0) om]at h;exact h
theorem loU_V{l:List Nat}(h:l.length<=2):loU l l.length=VL l:=by
 match l,h with
 |[],_=>rfl
 |[a],_=>show a=a+4294967296*0;omega
 |[a,b],_=>show a+4294967296*b=a+4294967296*(b+4294967296*0);omega
theorem wr_i{u:Nat}(h:u<18446744073709551616):IntKind.i64.wrap (u:Int)=if u<9223372036854775808 then(u:Int)else(u:Int)-18446744073709551616:=by
 simp only[IntKind.wrap,IntKind.signed,IntKind.bits,Dm];split<;>(try split)<;>simp_all<;>omega
theorem wr_n{u:Nat}(h:u<18446744073709551616):IntKind.i64.wrap (0-IntKind.i64.wrap (u:Int))=if u<=9223372036854775808 then(if u=9223372036854775808 then-9223372036854775808 else-(u:Int))else 18446744073709551616-(u:Int):=by
 rw[wr_i h];simp only[IntKind.wrap,IntKind.signed,IntKind.bits,Dm];split<;>(repeat' split)<;>simp_all<;>omega
theorem sm_big{z:Int}(h:2<(lim z.natAbs).length):smB z=false:=by
 rw[<-Et,smB_iff];intro h2;have:=qV (n:=z.natAbs) (k:=2) (by rw[show(4294967296:Nat)^2=18446744073709551616 from rfl];omega);omega
theorem sm_u{z:Int}(h:(lim z.natAbs).length<=2):loU (lim z.natAbs) (lim z.natAbs).length=z.natAbs:=by rw[loU_V h,vF]
theorem cG0(c i:Int):Fx 154 [.v (.int .i64 c),.v (.int .i64 i)] (faD c i):=by
 refine yD zJ Tryz.func154 rfl rfl rfl rfl rfl rfl ?_;intros;refine zK 100 ?_;refine zK 200 ?_;refine zL ?_;exact u4 rfl (u6 _)
theorem intSmall_ok(z:Int)(hz:(lim z.natAbs).length<=128):Fx 198 [.agg (zV z)] (.tup [.v (.int .i64 (smQ z)),faD (smC z) (smE z)]):=by
 have hk:=zOk (z:=z) om;have hlg:=yV z.natAbs;refine yD zJ Tryz.func198 rfl rfl rfl rfl rfl rfl ?_;intros;refine zK 100 ?_;refine zB ?_;refine zB (zE zJ [] 200 rfl ?_);refine zF ?_;refine zQ _ ((vL [(decide (z<0),lim z.natAbs)] (zOk1 hz) (by show 1<=100;omega)).args ⟨u18 rfl,trivial⟩) rfl ?_;refine zF ?_;refine zC (zA (zK 300 ?_));refine zZ (fun c2=>?_) (fun c2=>?_)
 ·
  exact absurd c2 de
 ·
  refine zM (zA (zK 500 ?_));refine zB (zK 600 ?_);refine zP ?_;refine yC (ι:={k:Nat//k<=(lim z.natAbs).length/\k<=2}) [1,3,17,18] [0,2] 650 (fun x=>[(19,.v (.int .i64 x.1)),(5,.v (.int .u64 (loU (lim z.natAbs) x.1:Nat)))]) (fun _=>[]) (fun x=>(lim z.natAbs).length-x.1) ⟨0,Aq _,by decide⟩ ?_;refine⟨⟨yG,yF,rfl,rfl⟩,fun x=>?_⟩;have hk1:=x.2.1;have hk2:=x.2.2;have hu:=loU_lt hlg hk2;refine zK 700 ?_;refine zB (zU rfl (fun c6=>?_) (fun c6=>?_))
  ·have c6:x.1<(lim z.natAbs).length:=by
    have h9:=c6;simp at h9;omega
   refine zM (zA (zB (zP (zK 800 ?_))));refine zB (zK 900 ?_);refine zU rfl (fun c8=>?_) (fun c8=>?_)
   ·have c8:smB z=false:=sm_big (by have h9:=c8;simp at h9;omega);refine zB (zE zJ [] 1000 rfl ?_);refine zF ?_;refine zQ _ (tW _ _) rfl ?_;refine zf (zA (zL (zO (zR (zO (yQ (zR (zO ?_))))))));rw[show smQ z=0 from Aa (by rw[c8];decide),show smC z=14 from Aa (by rw[c8];decide),show smE z= -1 from Aa (by rw[c8];decide)];exact u4 rfl (u6 _)
   ·have c8:x.1<=1:=by
     have h9:=c8;simp at h9;omega
    refine zM (zA (yM zJ [] 1100 ?_));refine zN (zA (yM zJ [] 1200 ?_));exact zS ⟨x.1+1,by omega,by omega⟩ ⟨⟨u21 (by push_cast;rfl),Sub.of_eq (by rw[<-loU_or hlg (k:=x.1) om];rfl),yG⟩,yF,rfl,rfl⟩ (by show(lim z.natAbs).length-(x.1+1)<(lim z.natAbs).length-x.1;omega)
  ·have hke:x.1=(lim z.natAbs).length:=by
    have h9:=c6;simp at h9;omega
   have hu9:loU (lim z.natAbs) x.1=z.natAbs:=by rw[hke];exact sm_u om
   rw[hu9]at hu;clear c6;refine yE (yA (yB (zY (zA (zK 1300 ?_)))));refine zB (zK 1400 ?_);refine zU rfl (fun c13=>?_) (fun c13=>?_)
   ·have c13:z<0:=by simpa using c13
    refine yM zJ [] 1500 ?_;refine zA (zB (zK 1600 ?_));refine zU rfl (fun c15=>?_) (fun c15=>?_)
    ·have hw:=wr_n hu;have c15:smB z=false:=by
      have h9:=c15;rw[<-Et,smB_iff];intro hb;rw[hu9,hw]at h9
      revert h9
      repeat' split
      all_goals (intro h9;simp at h9;omega)
     refine zB (zE zJ [] 1700 rfl ?_);refine zF ?_;refine zQ _ (tW _ _) rfl ?_;refine zf (zA (zL (zO ?_)));rw[show smQ z=0 from Aa (by rw[c15];decide),show smC z=14 from Aa (by rw[c15];decide),show smE z= -1 from Aa (by rw[c15];decide)];exact u4 rfl (u6 _)
    ·have hw:=wr_n hu;have c15:smB z=true/\IntKind.i64.wrap (0-IntKind.i64.wrap (z.natAbs:Int))=z:=by
      have h9:=c15;rw[smB_iff,hw];rw[hu9,hw]at h9
      revert h9
      repeat' split
      all_goals (intro h9;simp at h9;omega)
     refine zM (zA (zK 1800 ?_));refine zL ?_;rw[show smQ z=z from Ab c15.1,show smC z=0 from Ab c15.1,show smE z=0 from Ab c15.1];exact u4 rfl (u19 ⟨u10 (by rw[hu9];exact c15.2),u6 _,trivial⟩)
   ·have c13:¬z<0:=by simpa using c13
    refine zM (zA (zB (zK 1600 ?_)));refine zU rfl (fun c15=>?_) (fun c15=>?_)
    ·have hw:=wr_i hu;have c15:smB z=false:=by
      have h9:=c15;rw[<-Et,smB_iff];intro hb;rw[hu9,hw]at h9
      revert h9
      repeat' split
      all_goals (intro h9;simp at h9;omega)
     refine zB (zE zJ [] 1700 rfl ?_);refine zF ?_;refine zQ _ (tW _ _) rfl ?_;refine zf (zA (zL (zO ?_)));rw[show smQ z=0 from Aa (by rw[c15];decide),show smC z=14 from Aa (by rw[c15];decide),show smE z= -1 from Aa (by rw[c15];decide)];exact u4 rfl (u6 _)
    ·have hw:=wr_i hu;have c15:smB z=true/\IntKind.i64.wrap (z.natAbs:Int)=z:=by
      have h9:=c15;rw[smB_iff,hw];rw[hu9,hw]at h9
      revert h9
      repeat' split
      all_goals (intro h9;simp at h9;omega)
     refine zM (zA (zK 1800 ?_));refine zL ?_;rw[show smQ z=z from Ab c15.1,show smC z=0 from Ab c15.1,show smE z=0 from Ab c15.1];exact u4 rfl (u19 ⟨u10 (by rw[hu9];exact c15.2),u6 _,trivial⟩)
theorem slBounded_ok(z a b:Int)(hz:(lim z.natAbs).length<=128)(ha: -1000000<=a)(hab:a<=b)(hb:b<=1000000):Fx 155 [.agg (zV z),.v (.int .i64 a),.v (.int .i64 b)] (.v (.int .i64 (clZ z a b))):=by
 refine yD zJ Tryz.func155 rfl rfl rfl rfl rfl rfl ?_;intros;refine zK 100 ?_;refine zB (zE zJ [] 200 rfl ?_);refine zF ?_;refine zQ _ (intSmall_ok z hz) rfl ?_;refine zF ?_;refine zC (zA (zB (zP (zK 300 ?_))));refine zU rfl (fun c2=>?_) (fun c2=>?_)
 ·have c2:smB z=false/\z<0:=by
   have h9:=c2;unfold smC at h9;split at h9<;>simp_all
  refine zK 400 ?_;refine zL (zR (zO ?_));have hn:¬(-9223372036854775808<=z/\z<=9223372036854775807):=fun h=>by rw[smB_iff.2 h]at c2;exact absurd c2.1 de
  exact u4 rfl (u10 (by unfold clZ;split<;>(try split)<;>omega))
 ·have c2:smB z=true\/¬z<0:=by
   have h9:=c2;unfold smC at h9;split at h9<;>simp_all
  refine zK 500 ?_;refine zU rfl (fun c4=>?_) (fun c4=>?_)
  ·have c4:smB z=false:=by
    have h9:=c4;unfold smC at h9;split at h9<;>simp_all
   refine zK 600 ?_;refine zL (zR (zO ?_));have hn:¬(-9223372036854775808<=z/\z<=9223372036854775807):=fun h=>by rw[smB_iff.2 h]at c4;exact absurd c4 de
   have hz0:¬z<0:=c2.resolve_left (by rw[c4];decide);exact u4 rfl (u10 (by unfold clZ;split<;>(try split)<;>omega))
  ·have c4:smB z=true:=by
    have h9:=c4;unfold smC at h9;split at h9<;>simp_all
   refine zM (zN (zA (zK 700 ?_)));refine zL ?_;have hb9:=smB_iff.1 c4;have hq9:smQ z=z:=Ab c4;rw[hq9];exact u4 rfl (u10 (by unfold clZ;split<;>(try split)<;>omega))
theorem gC1{P:Program}{E:Pn}{K:DS->Prop}{p:Prop}{r:Out}(hr:r.sat P E K)(hp:p:=by first|(rw[hw1];exact ini om om)|(rw[hw2];exact ini om om)|exact Fa):(Out.need p r).sat P E K:=⟨hp,hr⟩
theorem slIndex_ok(z n:Int)(hz:(lim z.natAbs).length<=128)(h0:0<=n)(h1:n<=4000):Fx 92 [.agg (zV z),.v (.int .i64 n)] (.tup [.v (.int .i64 (pxQ z n)),faD (pxC z n) (pxE z n)]):=by
 have hk:=zOk (z:=z) om;have hw1:IntKind.i64.wrap (-n)= -n:=InI.wrap (ini om om);have hw2:IntKind.i64.wrap (0-n)= -n:=by rw[Int.zero_sub];exact hw1
 refine yD zJ Tryz.func92 rfl rfl rfl rfl rfl rfl ?_;intros;refine zK 100 ?_;refine zB (zP ?_);refine zB (zE zJ [] 200 rfl ?_);refine zF ?_;refine zQ _ ((gG (decide (z<0)) (lim z.natAbs) om).out (u7 hk)) rfl ?_;refine zF ?_;refine zC (zA (zZ (fun c1=>?_) (fun c1=>?_)))
 ·
  exact absurd c1 de
 ·
  refine zK 400 ?_;refine zZ (fun c3=>?_) (fun c3=>?_)
  ·
   first|omega|(simp at c3;omega)
  ·
   refine zM (zN (zA ?_));refine zB (zE zJ [] 600 rfl ?_);repeat(first|refine zH ?_|refine gC1 ?_)
   refine zQ _ ((slBounded_ok z (-n-1) n hz om om om).args ⟨u6 _,u10 (by rw[hw2]),u6 _,trivial⟩) rfl ?_;repeat(first|refine zH ?_|refine gC1 ?_)
   refine zC (zA (zB (zK 700 ?_)));refine zU rfl (fun c6=>?_) (fun c6=>?_)
   ·have c6:clZ z (-n-1) n<0:=Ag c6;obtain⟨i1,i2,i3⟩:=px_1 h0 c6;refine yM zJ [] 800 ?_;refine zA (zB (zK 900 ?_));refine zU rfl (fun c8=>?_) (fun c8=>?_)
    ·have c8:¬pxB z n=true:=by
      have h9:=c8;simp at h9;rw[i1];omega
     refine zB (zE zJ [] 1000 rfl ?_);refine zF ?_;refine zQ _ (cG0 4 (-1)) rfl ?_;refine zf (zA (zL (zO ?_)));obtain⟨e1,e2,e3⟩:=px_n c8;rw[e1,e2,e3];exact u4 rfl (u6 _)
    ·have c8:pxB z n=true:=by
      have h9:=c8;simp at h9;rw[i1];omega
     refine zM (zA (zK 1100 ?_));refine zL ?_;obtain⟨e1,e2,e3⟩:=px_y c8;rw[e1,e2,e3,i2 c8];exact u4 rfl (u6 _)
   ·have c6:¬clZ z (-n-1) n<0:=of_decide_eq_false c6;obtain⟨i1,i2,i3⟩:=px_2 h0 c6;refine zM (zA (zB (zK 900 ?_)));refine zU rfl (fun c8=>?_) (fun c8=>?_)
    ·have c8:¬pxB z n=true:=by
      have h9:=c8;simp at h9;rw[i1];omega
     refine zB (zE zJ [] 1000 rfl ?_);refine zF ?_;refine zQ _ (cG0 4 (-1)) rfl ?_;refine zf (zA (zL (zO ?_)));obtain⟨e1,e2,e3⟩:=px_n c8;rw[e1,e2,e3];exact u4 rfl (u6 _)
    ·have c8:pxB z n=true:=by
      have h9:=c8;simp at h9;rw[i1];omega
     refine zM (zA (zK 1100 ?_));refine zL ?_;obtain⟨e1,e2,e3⟩:=px_y c8;rw[e1,e2,e3,i2 c8];exact u4 rfl (u6 _)
theorem uY(v:Vl)(n:Int)(hg:Lg v.nl)(hv:qH v=true)(h0:0<=n)(h1:n<=4000):Fx 41 [.agg (vlD v),.v (.int .i64 n)] (.tup [.v (.int .i64 (poQ v n)),.agg (stD (poS v n))]):=by
 obtain⟨hz1,hz2⟩:=gM1 hg hv;refine yD zJ Tryz.func41 rfl rfl rfl rfl rfl rfl ?_;intros;refine zK 100 ?_;refine zB (zK 200 ?_);refine zU rfl (fun c1=>?_) (fun c1=>?_)
 ·have c1:¬v.k=2:=by simpa using c1
  refine zB (zE zJ [] 300 rfl ?_);refine zF ?_;refine zQ _ (wF _ _) rfl ?_;refine zf (zA (zL (zO ?_)));rw[show poQ v n=0 from Aa c1,show poS v n=_ from Ab c1];exact u4 rfl (u6 _)
 ·have c1:v.k=2:=by simpa using c1
  refine zM (zA ?_);refine zB (zE zJ [] 400 rfl ?_);refine zF ?_;refine zQ _ ((slIndex_ok (pxI v) n hz2 h0 h1).args ⟨u9 (congrArg D.agg hz1),u6 _,trivial⟩) rfl ?_;refine zF ?_;refine zC (zA (zB (zK 500 ?_)));refine zU rfl (fun c4=>?_) (fun c4=>?_)
  ·have c4:¬pxB (pxI v) n=true:=fun h8=>by have h9:=c4;simp[(px_y h8).2.1]at h9
   refine zB (zE zJ [] 600 rfl ?_);refine zF ?_;refine zQ _ (wF _ _) rfl ?_;refine zf (zA (zL (zO ?_)));rw[show poQ v n=0 from(Ab c1).trans (Aa c4),show poS v n=_ from(Aa (not_not_intro c1)).trans (Aa c4)];exact u4 rfl (u6 _)
  ·have c4:pxB (pxI v) n=true:=by
    have h9:=c4;by_cases h8:pxB (pxI v) n=true
    ·exact h8
    ·simp[(px_n h8).2.1]at h9
   refine zM (zA (zK 700 ?_));refine zL ?_;rw[show poQ v n=_ from Ab c1,show poS v n=_ from(Aa (not_not_intro c1)).trans (Ab c4)];exact u4 rfl (u19 ⟨u6 _,u20 nz,trivial⟩)
theorem cY(b:Bool)(n:Nat):Fx 76 [rD b n] (.v (.bool (b&&decide (0<n)))):=by
 have hz:=cC n;refine yD zJ Tryz.func76 rfl rfl rfl rfl rfl rfl ?_;intros;refine zK 100 ?_;refine zK 200 ?_;refine zL ?_;exact u4 rfl (u7 (by rw[decide_eq_decide.2 (show(0<((dig n).length:Int))↔0<n by omega)]))
theorem kA{P:Program}{E:Pn}{K:DS->Prop}{p:Prop}{r:Out}(hr:r.sat P E K)(hp:p:=by first|(simp[c7,hd2];exact ini om om)|(simp[c7,hd2];done)|exact Fa):(Out.need p r).sat P E K:=⟨hp,hr⟩
theorem Clamp_ok(b:Bool)(n:Nat)(lo hi:Int)(hn:(dig n).length<=1000000)(h1: -65536<lo)(h2:lo<=hi)(h3:hi<65536):Fx 87 [rD b n,.v (.int .i64 lo),.v (.int .i64 hi)] (.v (.int .i64 (clZ (ZI b n) lo hi))):=by
 refine yD zJ Tryz.func87 rfl rfl rfl rfl rfl rfl ?_;intros;refine zB (zE zJ [] 100 rfl ?_);repeat(first|refine zH ?_|refine kA ?_)
 refine zC (zA (zB ?_));refine zB (zX zJ [] [[],[],[1],[0,1,2],[0,1,2,3]] 200 yP kr rfl ?_);repeat(first|refine zH ?_|refine kA ?_)
 refine zQ _ (uC lo om om) rfl ?_;repeat(first|refine zH ?_|refine kA ?_)
 refine zQ _ (gQ b (decide (lo<0)) n lo.natAbs hn (At (qB (k:=1) om) de)) rfl ?_;repeat(first|refine zH ?_|refine kA ?_)
 refine zC (zA (zU rfl (fun c1=>?_) (fun c1=>?_)))
 ·have c1:ZI b n<=lo:=by
   have h9:=c1;simp only[Ap,bO,dV0]at h9;exact h9
  refine zB (zE zJ [] 300 rfl ?_);repeat(first|refine zH ?_|refine kA ?_)
  refine zC (zA (zL (zO ?_)));exact u4 rfl (u10 (by unfold clZ;split<;>(try split)<;>omega))
 ·have c1:lo<ZI b n:=by
   have h9:=c1;simp only[Ay,bO,dV0]at h9;omega
  refine zM (zA (zB ?_));refine zB (zX zJ [] [[],[],[1],[0,1,2],[0,1,2,3]] 400 yP kr rfl ?_);repeat(first|refine zH ?_|refine kA ?_)
  refine zQ _ (uC hi om om) rfl ?_;repeat(first|refine zH ?_|refine kA ?_)
  refine zQ _ (gQ b (decide (hi<0)) n hi.natAbs hn (At (qB (k:=1) om) de)) rfl ?_;repeat(first|refine zH ?_|refine kA ?_)
  refine zC (zA (zU rfl (fun c3=>?_) (fun c3=>?_)))
  ·have c3:hi<=ZI b n:=by
    have h9:=c3;simp only[Ap,bO,mB]at h9;exact h9
   refine zB (zE zJ [] 500 rfl ?_);repeat(first|refine zH ?_|refine kA ?_)
   refine zC (zA (zL (zO ?_)));exact u4 rfl (u10 (by unfold clZ;split<;>(try split)<;>omega))
  ·have c3:ZI b n<hi:=by
    have h9:=c3;simp only[Ay,bO,mB]at h9;omega
   have hab:=xR b n;have hn6:n<65536:=by omega
   have hd1:=dig_one hn6;have hdl:(dig n).length=if n=0 then 0 else 1:=by rw[hd1];split<;>rfl
   have hcl:clZ (ZI b n) lo hi=ZI b n:=by unfold clZ;rw[Aa om,Aa om]
   refine zM (zA ?_);refine zB (zE zJ [] 600 rfl ?_);repeat(first|refine zH ?_|refine kA ?_)
   refine zC (zA (zB ?_));refine zB (zE zJ [] 700 rfl ?_);repeat(first|refine zH ?_|refine kA ?_)
   refine zC (zA (zP ?_));refine yC (ι:={k:Nat//k<=(dig n).length}) [3] [0] 750 (fun x=>[(8,.v (.int .i64 ((x.1:Int)-1))),(7,.v (.int .i64 (if x.1=0 then(n:Int)else 0)))]) (fun _=>[]) (fun x=>x.1) ⟨(dig n).length,Ar _⟩ ?_;refine⟨⟨⟨u21 rfl,u21 (by by_cases e:n=0<;>simp[hdl,e]),yG⟩,yF,rfl,rfl⟩,fun x=>?_⟩
   have hk1:=x.2;refine zB ?_;refine zB (zE zJ [] 800 rfl ?_);repeat(first|refine zH ?_|refine kA ?_)
   refine zC (zA (zU rfl (fun c7=>?_) (fun c7=>?_)))
   ·have c7:x.1=1:=by
     have h9:=c7;simp at h9;split at hdl<;>omega
    have hn1:¬n=0:=fun h=>by rw[Ab h]at hdl;omega
    have hd2:dig n=[n]:=by rw[hd1,Aa hn1]
    refine zM (zA (zB (zP ?_)));refine zE zJ [] 1000 rfl ?_;repeat(first|refine zH ?_|refine kA ?_)
    refine zC (zN (zA ?_));refine zE zJ [] 1100 rfl ?_;repeat(first|refine zH ?_|refine kA ?_)
    refine zC ?_;exact zS ⟨0,Aq _⟩ ⟨⟨u21 (by rw[c7];rfl),u21 (by simp[c7,hd2]),yG⟩,yF,rfl,rfl⟩ (by show 0<x.1;omega)
   ·have c7:x.1=0:=by
     have h9:=c7;simp at h9;omega
    refine yE (yA (yB (zY (zA (zB ?_)))));refine zB (zE zJ [] 1100 rfl ?_);repeat(first|refine zH ?_|refine kA ?_)
    refine zC (zA (zZ (fun c10=>?_) (fun c10=>?_)))
    ·
     refine zB (zE zJ [] 1200 rfl ?_);repeat(first|refine zH ?_|refine kA ?_)
     refine zC (zA (zL (zO ?_)));subst c10;exact u4 rfl (u10 (by rw[hcl,Ab c7,Int.zero_sub];exact InI.wrap (ini om om)))
    ·
     refine zM (zA ?_);refine zB (zE zJ [] 1300 rfl ?_);repeat(first|refine zH ?_|refine kA ?_)
     refine zC (zA (zL ?_));have c10:b=false:=by simpa using c10
     subst c10;exact u4 rfl (u10 (by rw[hcl,Ab c7];rfl))
def podP(v:Vl)(b:Bool)(n:Nat):Bool×Nat:=if v.k=2/\pxB (pxI v) (ZI b n)=true then(if pxI v<0 then plB v.nn (VL v.nl) b n else(v.nn,VL v.nl))else(false,0)
theorem cU0{v:Vl}{b:Bool}{n:Nat}:ZI (podP v b n).1 (podP v b n).2=poQ v (ZI b n):=by
 unfold podP poQ pxQ pxJ;by_cases h1:v.k=2
 ·by_cases h2:pxB (pxI v) (ZI b n)=true
  ·rw[Ab ⟨h1,h2⟩,Ab h1,Ab h2];split
   ·exact bU0 _ _ _ _
   ·rfl
  ·rw[Aa (fun h=>h2 h.2),Ab h1,Aa h2];rfl
 ·rw[Aa (fun h=>h1 h.1),Aa h1];rfl
theorem cV0{v:Vl}{n:Int}(h0:0<=n):0<=poQ v n/\poQ v n<=n:=by
 unfold poQ pxQ;split
 ·split
  ·rename_i h;have:=pxB_iff.1 h;omega
  ·omega
 ·omega
theorem pod_y{v:Vl}{b:Bool}{n:Nat}(h1:v.k=2)(h2:pxB (pxI v) (ZI b n)=true)(h3:pxI v<0):podP v b n=plB v.nn (VL v.nl) b n:=(Ab ⟨h1,h2⟩).trans (Ab h3)
theorem pod_z{v:Vl}{b:Bool}{n:Nat}(h1:v.k=2)(h2:pxB (pxI v) (ZI b n)=true)(h3:¬pxI v<0):podP v b n=(v.nn,VL v.nl):=(Ab ⟨h1,h2⟩).trans (Aa h3)
theorem gO1{v:Vl}{b:Bool}{n:Nat}(h:pxI v<0):pxJ (pxI v) (ZI b n)=ZI (plB v.nn (VL v.nl) b n).1 (plB v.nn (VL v.nl) b n).2:=(Ab h).trans (bU0 _ _ _ _).symm
theorem gN1{v:Vl}{n:Int}(h:¬pxI v<0):pxJ (pxI v) n=ZI v.nn (VL v.nl):=Aa h
theorem yI0(v:Vl)(b:Bool)(n:Nat)(hg:Lg v.nl)(hv:qH v=true)(hn:(dig n).length<=1000):Fx 28 [.agg (vlD v),rD b n] (.tup [rD (podP v b n).1 (podP v b n).2,.agg (stD (poS v (ZI b n)))]):=by
 have hvl:=(pR hg (jX1 hg hv)).2.2;have hvd:=VLdig hg;have hpl:=zX0 (b1:=v.nn) (b2:=b) (k:=1000) (show(dig (VL v.nl)).length<=1000 by omega) hn;refine yD zJ Tryz.func28 rfl rfl rfl rfl rfl rfl ?_;intros;refine zK 100 ?_;refine zB (zK 200 ?_);refine zU rfl (fun c1=>?_) (fun c1=>?_)
 ·have c1:¬v.k=2:=by simpa using c1
  refine zB (zE zJ [] 300 rfl ?_);refine zF ?_;refine zQ _ (gP _ _) rfl ?_;refine zf (zA (zL (zO ?_)));rw[show podP v b n=(false,0)from Aa (fun h=>c1 h.1),show poS v (ZI b n)=_ from Ab c1];exact u4 rfl (u19 ⟨u20 ⟨u6 _,u12 (by show dig 0=[];simp[dig]),trivial⟩,u20 nz,trivial⟩)
 ·have c1:v.k=2:=by simpa using c1
  refine zM (zA ?_);refine zB (zE zJ [] 400 rfl ?_);refine zF ?_;refine zQ _ (I7_ok v hg om) rfl ?_;refine zf (zA (zB ?_));refine zB (zE zJ [] 500 rfl ?_);refine zF ?_;refine zQ _ (cY v.nn (VL v.nl)) rfl ?_;refine zF ?_;refine zC (zA (zU rfl (fun c4=>?_) (fun c4=>?_)))
  ·have c4:pxI v<0:=by have h9:=c4;simpa[qE0,pxI]using h9
   refine zE zJ [] 600 rfl ?_;refine zF ?_;refine zQ _ (jD v.nn b (VL v.nl) n om om) rfl ?_;refine zf (zA (zB ?_));refine zB (zE zJ [] 700 rfl ?_);refine zF ?_;refine zQ _ (cY _ _) rfl ?_;refine zF ?_;refine yR _ (fun hg5=>gQ _ _ _ _ om om) rfl ?_;refine zF ?_;refine zC (zA (zU rfl (fun c6=>?_) (fun c6=>?_)))
   ·have hJ:=gO1 (b:=b) (n:=n) c4;have c6:¬pxB (pxI v) (ZI b n)=true:=by
     have h9:=c6;rw[pxB_iff,hJ];simp[qE0,mB]at h9;omega
    refine zB (zE zJ [] 800 rfl ?_);refine zF ?_;refine zQ _ (gP _ _) rfl ?_;refine zf (zA (zL (zO ?_)));rw[show podP v b n=(false,0)from Aa (fun h=>c6 h.2),show poS v (ZI b n)=_ from(Aa (not_not_intro c1)).trans (Aa c6)];exact u4 rfl (u19 ⟨u20 ⟨u6 _,u12 (by show dig 0=[];simp[dig]),trivial⟩,u20 nz,trivial⟩)
   ·have hJ:=gO1 (b:=b) (n:=n) c4;have c6:pxB (pxI v) (ZI b n)=true:=by
     have h9:=c6;rw[pxB_iff,hJ];simp[qE0,mB]at h9;omega
    refine zM (zA (zK 900 ?_));refine zL ?_;rw[pod_y c1 c6 c4,show poS v (ZI b n)=_ from(Aa (not_not_intro c1)).trans (Ab c6)];exact u4 rfl (u19 ⟨u6 _,u20 nz,trivial⟩)
  ·have c4:¬pxI v<0:=by have h9:=c4;simpa[qE0,pxI]using h9
   refine zM (zA (zB ?_));refine zB (zE zJ [] 700 rfl ?_);refine zF ?_;refine zQ _ (cY _ _) rfl ?_;refine zF ?_;refine yR _ (fun hg5=>gQ _ _ _ _ om om) rfl ?_;refine zF ?_;refine zC (zA (zU rfl (fun c6=>?_) (fun c6=>?_)))
   ·have hJ:=gN1 (n:=ZI b n) c4;have c6:¬pxB (pxI v) (ZI b n)=true:=by
     have h9:=c6;rw[pxB_iff,hJ];simp[qE0,mB]at h9;omega
    refine zB (zE zJ [] 800 rfl ?_);refine zF ?_;refine zQ _ (gP _ _) rfl ?_;refine zf (zA (zL (zO ?_)));rw[show podP v b n=(false,0)from Aa (fun h=>c6 h.2),show poS v (ZI b n)=_ from(Aa (not_not_intro c1)).trans (Aa c6)];exact u4 rfl (u19 ⟨u20 ⟨u6 _,u12 (by show dig 0=[];simp[dig]),trivial⟩,u20 nz,trivial⟩)
   ·have hJ:=gN1 (n:=ZI b n) c4;have c6:pxB (pxI v) (ZI b n)=true:=by
     have h9:=c6;rw[pxB_iff,hJ];simp[qE0,mB]at h9;omega
    refine zM (zA (zK 900 ?_));refine zL ?_;rw[pod_z c1 c6 c4,show poS v (ZI b n)=_ from(Aa (not_not_intro c1)).trans (Ab c6)];exact u4 rfl (u19 ⟨u6 _,u20 nz,trivial⟩)
theorem gI0(v:Vl)(n:Int)(hg:Lg v.nl)(hv:qH v=true)(h0:0<=n)(h1:n<=4000):Fx 35 [.agg (vlD v),.v (.int .i64 n)] (.tup [.v (.int .i64 (poQ v n)),.agg (stD (poS v n))]):=by
 have hzz:=bO n;have hpq:=cU0 (v:=v) (b:=decide (n<0)) (n:=n.natAbs);rw[hzz]at hpq;have hle:=cV0 (v:=v) h0;have hpa:=xR (podP v (decide (n<0)) n.natAbs).1 (podP v (decide (n<0)) n.natAbs).2;rw[hpq]at hpa;have hpd:(dig (podP v (decide (n<0)) n.natAbs).2).length<=1:=qB om;have hnd:(dig n.natAbs).length<=1:=qB om;refine yD zJ Tryz.func35 rfl rfl rfl rfl rfl rfl ?_;intros;refine zK 100 ?_;refine zB (zX zJ [] mK20 200 yP kr rfl ?_);refine zF ?_;refine zQ _ (uC n om om) rfl ?_;refine zF ?_;refine zQ _ (yI0 v (decide (n<0)) n.natAbs hg hv om) rfl ?_;refine zf (zA ?_);refine zB (zX zJ [] [[],[],[0,1],[],[0,1,2],(rgN 5)] 300 yP kr rfl ?_);refine zF ?_;refine zQ _ (Clamp_ok _ _ 0 n om de h0 om) rfl ?_;refine zf (zA (zL ?_));rw[hpq,hzz];exact u4 rfl (u19 ⟨u10 (by unfold clZ;rw[Aa om,Aa om]),u6 _,trivial⟩)
end Go.Proofs.YtammfbdgjnkolaaGreatDoor
