/-Part 20 of the proof. -/
import Derived.Test.YtmakjjodkiedmaaGreatDoorM19
import Derived.Lib.ItoaLen
import Derived.Lib.QuoteLoop
namespace Go.Proofs.YtmakjjodkiedmaaGreatDoor
open Go.RowKit
variable{md me:Bool}
theorem dL{v:Vl}(hg:Lg v.nl)(h:yR v=true):uM v.nn v.nl=true:=by
 have hz:∀{b:Bool}{l:List Nat},zI b l=true->uM b l=true:=fun h=>by rw[zI,zT0]at h;rw[h.1,h.2];rfl
 unfold yR at h;repeat' split at h
 all_goals (try simp only[Ah,Ai]at h)
 ·exact hz h.1.1.1
 ·exact hz h.1.1.1
 ·exact h.1.1.1
 ·have hr:=h.1.1.1;simp only[ratS,Ah]at hr;exact hr.1.1.1
 ·exact hz h.1.1.1.1
 ·exact hz h.1.1.1
 ·exact hz h.1.1.1
 ·exact hz h.1.1
 ·cases h
def pxI(v:Vl):Int:=ZI v.nn (VL v.nl)
theorem mE0{v:Vl}(hg:Lg v.nl)(h:yR v=true):[D.v (.bool v.nn),usD v.nl]=zV (pxI v)/\(lim (pxI v).natAbs).length<=128:=by
 obtain⟨a1,a2,a3⟩:=dW hg (dL hg h);have e:(pxI v).natAbs=VL v.nl:=uG0 _ _;rw[e,<-a1];refine⟨?_,a3⟩;unfold zV;rw[e,<-a1];exact congrArg (fun b=>[D.v (.bool b),usD v.nl]) a2
theorem neg_ZI(b:Bool)(n:Nat):(b&&decide (0<n))=decide (ZI b n<0):=by
 cases b with
 |false=>rw[Bool.false_and];exact(Cl (by show ¬((n:Nat):Int)<0;omega)).symm
 |true=>rw[Bool.true_and];exact decide_eq_decide.2 (by show 0<n↔ -((n:Nat):Int)<0;omega)
theorem jP0{x y:Int}:cmpI x y<=0↔x<=y:=by unfold cmpI;split<;>(try split)<;>omega
theorem jQ0{x y:Int}:0<=cmpI x y↔y<=x:=by unfold cmpI;split<;>(try split)<;>omega
theorem zOk1{z:Int}(hz:(lim z.natAbs).length<=128):∀k<[(decide (z<0),lim z.natAbs)].length,uM ([(decide (z<0),lim z.natAbs)].getD k (false,[])).1 ([(decide (z<0),lim z.natAbs)].getD k (false,[])).2=true/\([(decide (z<0),lim z.natAbs)].getD k (false,[])).2.length<=2000000:=fun k hk=>by
 have h0:k=0:=by simp at hk;omega
 subst h0;exact⟨zOk hz,by show(lim z.natAbs).length<=2000000;omega⟩
theorem dig_one{n:Nat}(h:n<65536):dig n=if n=0 then []else [n]:=by
 unfold dig;split
 ·rfl
 ·rw[Nat.mod_eq_of_lt h,Nat.div_eq_of_lt h];unfold dig;rfl
def clZ(z a b:Int):Int:=if z<a then a else if b<z then b else z
def smB(z:Int):Bool:=decide (-9223372036854775808<=z)&&decide (z<=9223372036854775807)
def smQ(z:Int):Int:=if smB z=true then z else 0
def smC(z:Int):Int:=if smB z=true then 0 else 14
def smE(z:Int):Int:=if smB z=true then 0 else-1
theorem smB_iff{z:Int}:smB z=true↔ -9223372036854775808<=z/\z<=9223372036854775807:=by simp[smB]
def loU(l:List Nat)(k:Nat):Nat:=if k=0 then 0 else if k=1 then l.getD 0 0 else l.getD 0 0+4294967296*l.getD 1 0
theorem loU_lt{l:List Nat}(hg:Lg l){k:Nat}(hk:k<=2):loU l k<18446744073709551616:=by
 have h0:=gD0 hg 0;have h1:=gD0 hg 1;unfold loU;split
 ·omega
 ·split<;>omega
theorem loU_or{l:List Nat}(hg:Lg l){k:Nat}(hk:k<=1):bOr .u64 ((loU l k:Nat):Int) (IntKind.u64.wrap (IntKind.u64.wrap ((l.getD k 0:Nat):Int)*2^min (Int.toNat (32*(k:Int))) IntKind.u64.bits))=((loU l (k+1):Nat):Int):=by
 have h0:=gD0 hg 0;have h1:=gD0 hg 1;rcases(show k=0\/k=1 by omega)with rfl|rfl
 ·have e:min (Int.toNat (32*((0:Nat):Int))) IntKind.u64.bits=0:=by decide
  rw[e,w64 om,Int.pow_zero,Int.mul_one,w64 om];show IntKind.u64.wrap ((BitVec.ofInt 64 ((0:Nat):Int)|||BitVec.ofInt 64 ((l.getD 0 0:Nat):Int)).toNat:Int)=((l.getD 0 0:Nat):Int);rw[BitVec.ofInt_natCast,BitVec.ofInt_natCast,BitVec.toNat_or,BitVec.toNat_ofNat,BitVec.toNat_ofNat,Nat.mod_eq_of_lt om,Nat.mod_eq_of_lt om,Nat.zero_or,w64 om]
 ·have e:Int.toNat (32*((1:Nat):Int))=Int.toNat 32:=by decide
  rw[e];have h:=or64r h1 h0;rw[w64 (n:=l.getD 0 0) om]at h;exact h
theorem loU_V{l:List Nat}(h:l.length<=2):loU l l.length=VL l:=by
 match l,h with
 |[],_=>rfl
 |[a],_=>show a=a+4294967296*0;omega
 |[a,b],_=>show a+4294967296*b=a+4294967296*(b+4294967296*0);omega
theorem wr_i{u:Nat}(h:u<18446744073709551616):IntKind.i64.wrap (u:Int)=if u<9223372036854775808 then(u:Int)else(u:Int)-18446744073709551616:=by
 simp only[IntKind.wrap,IntKind.signed,IntKind.bits,Bool.true_and];split<;>(try split)<;>simp_all<;>omega
theorem wr_n{u:Nat}(h:u<18446744073709551616):IntKind.i64.wrap (0-IntKind.i64.wrap (u:Int))=if u<=9223372036854775808 then(if u=9223372036854775808 then-9223372036854775808 else-(u:Int))else 18446744073709551616-(u:Int):=by
 rw[wr_i h];simp only[IntKind.wrap,IntKind.signed,IntKind.bits,Bool.true_and];split<;>(repeat' split)<;>simp_all<;>omega
theorem sm_big{z:Int}(h:2<(lim z.natAbs).length):smB z=false:=by
 rw[<-Dj,smB_iff];intro h2;have:=gF (n:=z.natAbs) (k:=2) (by rw[show(4294967296:Nat)^2=18446744073709551616 from rfl];omega);omega
theorem sm_u{z:Int}(h:(lim z.natAbs).length<=2):loU (lim z.natAbs) (lim z.natAbs).length=z.natAbs:=by rw[loU_V h,pR0]
theorem vK0(c i:Int):Fx 82 [.v (.int .i64 c),.v (.int .i64 i)] (faD c i):=by
 refine yM zO Tryz.func82 rfl rfl rfl rfl rfl rfl ?_;intros;refine zK 100 ?_;refine zK 200 ?_;refine zN ?_;exact u1 rfl (u4 _)
theorem intSmall_ok(z:Int)(hz:(lim z.natAbs).length<=128):Fx 69 [.agg (zV z)] (.tup [.v (.int .i64 (smQ z)),faD (smC z) (smE z)]):=by
 have hk:=zOk (z:=z) om;have hlg:=lim_Dg z.natAbs;refine yM zO Tryz.func69 rfl rfl rfl rfl rfl rfl ?_;intros;refine zK 100 ?_;refine zB ?_;refine zB (zE zO [] 200 rfl ?_);refine zF ?_;refine zS _ ((intCheck_ok [(decide (z<0),lim z.natAbs)] (zOk1 hz) (by show 1<=100;omega)).args ⟨SubP.slrSl rfl,trivial⟩) rfl ?_;refine zF ?_;refine zC (zA (zK 300 ?_));refine zX (fun c2=>?_) (fun c2=>?_)
 ·
  exact absurd c2 de
 ·
  refine zJ (zA (zK 500 ?_));refine zB (zK 600 ?_);refine zQ ?_;refine yB (ι:={k:Nat//k<=(lim z.natAbs).length/\k<=2}) [1,3,17,18] [0,2] 650 (fun x=>[(19,.v (.int .i64 x.1)),(5,.v (.int .u64 (loU (lim z.natAbs) x.1:Nat)))]) (fun _=>[]) (fun x=>(lim z.natAbs).length-x.1) ⟨0,Aq _,by decide⟩ ?_;refine⟨⟨yK,yH,rfl,rfl⟩,fun x=>?_⟩;have hk1:=x.2.1;have hk2:=x.2.2;have hu:=loU_lt hlg hk2;refine zK 700 ?_;refine zB (zT rfl (fun c6=>?_) (fun c6=>?_))
  ·have c6:x.1<(lim z.natAbs).length:=by
    have h9:=c6;simp at h9;omega
   refine zJ (zA (zB (zQ (zK 800 ?_))));refine zB (zK 900 ?_);refine zT rfl (fun c8=>?_) (fun c8=>?_)
   ·have c8:smB z=false:=sm_big (by have h9:=c8;simp at h9;omega);refine zB (zE zO [] 1000 rfl ?_);refine zF ?_;refine zS _ (bS _ _) rfl ?_;refine zf (zA (zN (zM (zP (zM (yL (zP (zM ?_))))))));rw[show smQ z=0 from Aa (by rw[c8];decide),show smC z=14 from Aa (by rw[c8];decide),show smE z= -1 from Aa (by rw[c8];decide)];exact u1 rfl (u4 _)
   ·have c8:x.1<=1:=by
     have h9:=c8;simp at h9;omega
    refine zJ (zA (yO zO [] 1100 ?_));refine zL (zA (yO zO [] 1200 ?_));exact zR ⟨x.1+1,by omega,by omega⟩ ⟨⟨u19 (by push_cast;rfl),Sub.of_eq (by rw[<-loU_or hlg (k:=x.1) om];rfl),yK⟩,yH,rfl,rfl⟩ (by show(lim z.natAbs).length-(x.1+1)<(lim z.natAbs).length-x.1;omega)
  ·have hke:x.1=(lim z.natAbs).length:=by
    have h9:=c6;simp at h9;omega
   have hu9:loU (lim z.natAbs) x.1=z.natAbs:=by rw[hke];exact sm_u om
   rw[hu9]at hu;clear c6;refine yF (zZ (yA (zW (zA (zK 1300 ?_)))));refine zB (zK 1400 ?_);refine zT rfl (fun c13=>?_) (fun c13=>?_)
   ·have c13:z<0:=by simpa using c13
    refine yO zO [] 1500 ?_;refine zA (zB (zK 1600 ?_));refine zT rfl (fun c15=>?_) (fun c15=>?_)
    ·have hw:=wr_n hu;have c15:smB z=false:=by
      have h9:=c15;rw[<-Dj,smB_iff];intro hb;rw[hu9,hw]at h9
      revert h9
      repeat' split
      all_goals (intro h9;simp at h9;omega)
     refine zB (zE zO [] 1700 rfl ?_);refine zF ?_;refine zS _ (bS _ _) rfl ?_;refine zf (zA (zN (zM ?_)));rw[show smQ z=0 from Aa (by rw[c15];decide),show smC z=14 from Aa (by rw[c15];decide),show smE z= -1 from Aa (by rw[c15];decide)];exact u1 rfl (u4 _)
    ·have hw:=wr_n hu;have c15:smB z=true/\IntKind.i64.wrap (0-IntKind.i64.wrap (z.natAbs:Int))=z:=by
      have h9:=c15;rw[smB_iff,hw];rw[hu9,hw]at h9
      revert h9
      repeat' split
      all_goals (intro h9;simp at h9;omega)
     refine zJ (zA (zK 1800 ?_));refine zN ?_;rw[show smQ z=z from Ag c15.1,show smC z=0 from Ag c15.1,show smE z=0 from Ag c15.1];exact u1 rfl (SubP.tup ⟨u7 (by rw[hu9];exact c15.2),u4 _,trivial⟩)
   ·have c13:¬z<0:=by simpa using c13
    refine zJ (zA (zB (zK 1600 ?_)));refine zT rfl (fun c15=>?_) (fun c15=>?_)
    ·have hw:=wr_i hu;have c15:smB z=false:=by
      have h9:=c15;rw[<-Dj,smB_iff];intro hb;rw[hu9,hw]at h9
      revert h9
      repeat' split
      all_goals (intro h9;simp at h9;omega)
     refine zB (zE zO [] 1700 rfl ?_);refine zF ?_;refine zS _ (bS _ _) rfl ?_;refine zf (zA (zN (zM ?_)));rw[show smQ z=0 from Aa (by rw[c15];decide),show smC z=14 from Aa (by rw[c15];decide),show smE z= -1 from Aa (by rw[c15];decide)];exact u1 rfl (u4 _)
    ·have hw:=wr_i hu;have c15:smB z=true/\IntKind.i64.wrap (z.natAbs:Int)=z:=by
      have h9:=c15;rw[smB_iff,hw];rw[hu9,hw]at h9
      revert h9
      repeat' split
      all_goals (intro h9;simp at h9;omega)
     refine zJ (zA (zK 1800 ?_));refine zN ?_;rw[show smQ z=z from Ag c15.1,show smC z=0 from Ag c15.1,show smE z=0 from Ag c15.1];exact u1 rfl (SubP.tup ⟨u7 (by rw[hu9];exact c15.2),u4 _,trivial⟩)
theorem kX(z a b:Int)(hz:(lim z.natAbs).length<=128)(ha: -1000000<=a)(hab:a<=b)(hb:b<=1000000):Fx 84 [.agg (zV z),.v (.int .i64 a),.v (.int .i64 b)] (.v (.int .i64 (clZ z a b))):=by
 refine yM zO Tryz.func84 rfl rfl rfl rfl rfl rfl ?_;intros;refine zK 100 ?_;refine zB (zE zO [] 200 rfl ?_);refine zF ?_;refine zS _ (intSmall_ok z hz) rfl ?_;refine zF ?_;refine zC (zA (zB (zQ (zK 300 ?_))));refine zT rfl (fun c2=>?_) (fun c2=>?_)
 ·have c2:smB z=false/\z<0:=by
   have h9:=c2;unfold smC at h9;split at h9<;>simp_all
  refine zK 400 ?_;refine zN (zP (zM ?_));have hn:¬(-9223372036854775808<=z/\z<=9223372036854775807):=fun h=>by rw[smB_iff.2 h]at c2;exact absurd c2.1 de
  exact u1 rfl (u7 (by unfold clZ;split<;>(try split)<;>omega))
 ·have c2:smB z=true\/¬z<0:=by
   have h9:=c2;unfold smC at h9;split at h9<;>simp_all
  refine zK 500 ?_;refine zT rfl (fun c4=>?_) (fun c4=>?_)
  ·have c4:smB z=false:=by
    have h9:=c4;unfold smC at h9;split at h9<;>simp_all
   refine zK 600 ?_;refine zN (zP (zM ?_));have hn:¬(-9223372036854775808<=z/\z<=9223372036854775807):=fun h=>by rw[smB_iff.2 h]at c4;exact absurd c4 de
   have hz0:¬z<0:=c2.resolve_left (by rw[c4];decide);exact u1 rfl (u7 (by unfold clZ;split<;>(try split)<;>omega))
  ·have c4:smB z=true:=by
    have h9:=c4;unfold smC at h9;split at h9<;>simp_all
   refine zJ (zL (zA (zK 700 ?_)));refine zN ?_;have hb9:=smB_iff.1 c4;have hq9:smQ z=z:=Ag c4;rw[hq9];exact u1 rfl (u7 (by unfold clZ;split<;>(try split)<;>omega))
theorem rfNegI_ok(b:Bool)(n:Nat):Fx 79 [rD b n] (.v (.bool (b&&decide (0<n)))):=by
 have hz:=tH n;refine yM zO Tryz.func79 rfl rfl rfl rfl rfl rfl ?_;intros;refine zK 100 ?_;refine zK 200 ?_;refine zN ?_;exact u1 rfl (u5 (by rw[decide_eq_decide.2 (show(0<((dig n).length:Int))↔0<n by omega)]))
theorem wG{P:Program}{E:Pn}{K:DS->Prop}{p:Prop}{r:Out}(hr:r.sat P E K)(hp:p:=by first|(simp[c7,hd2];exact ini om om)|(simp[c7,hd2];done)|exact Dl):(Out.need p r).sat P E K:=⟨hp,hr⟩
theorem gW(b:Bool)(n:Nat)(lo hi:Int)(hn:(dig n).length<=1000000)(h1: -65536<lo)(h2:lo<=hi)(h3:hi<65536):Fx 37 [rD b n,.v (.int .i64 lo),.v (.int .i64 hi)] (.v (.int .i64 (clZ (ZI b n) lo hi))):=by
 refine yM zO Tryz.func37 rfl rfl rfl rfl rfl rfl ?_;intros;refine zB (zE zO [] 100 rfl ?_);repeat(first|refine zH ?_|refine wG ?_)
 refine zC (zA (zB ?_));refine zB (yE zO [] [[],[],[1],[0,1,2],[0,1,2,3]] 200 yX kr rfl ?_);repeat(first|refine zH ?_|refine wG ?_)
 refine zS _ (kW lo om om) rfl ?_;repeat(first|refine zH ?_|refine wG ?_)
 refine zS _ (dF b (decide (lo<0)) n lo.natAbs hn (Bg (qL (k:=1) om) de)) rfl ?_;repeat(first|refine zH ?_|refine wG ?_)
 refine zC (zA (zT rfl (fun c1=>?_) (fun c1=>?_)))
 ·have c1:ZI b n<=lo:=by
   have h9:=c1;simp only[Ai,xO0,jP0]at h9;exact h9
  refine zB (zE zO [] 300 rfl ?_);repeat(first|refine zH ?_|refine wG ?_)
  refine zC (zA (zN (zM ?_)));exact u1 rfl (u7 (by unfold clZ;split<;>(try split)<;>omega))
 ·have c1:lo<ZI b n:=by
   have h9:=c1;simp only[Av,xO0,jP0]at h9;omega
  refine zJ (zA (zB ?_));refine zB (yE zO [] [[],[],[1],[0,1,2],[0,1,2,3]] 400 yX kr rfl ?_);repeat(first|refine zH ?_|refine wG ?_)
  refine zS _ (kW hi om om) rfl ?_;repeat(first|refine zH ?_|refine wG ?_)
  refine zS _ (dF b (decide (hi<0)) n hi.natAbs hn (Bg (qL (k:=1) om) de)) rfl ?_;repeat(first|refine zH ?_|refine wG ?_)
  refine zC (zA (zT rfl (fun c3=>?_) (fun c3=>?_)))
  ·have c3:hi<=ZI b n:=by
    have h9:=c3;simp only[Ai,xO0,jQ0]at h9;exact h9
   refine zB (zE zO [] 500 rfl ?_);repeat(first|refine zH ?_|refine wG ?_)
   refine zC (zA (zN (zM ?_)));exact u1 rfl (u7 (by unfold clZ;split<;>(try split)<;>omega))
  ·have c3:ZI b n<hi:=by
    have h9:=c3;simp only[Av,xO0,jQ0]at h9;omega
   have hab:=uG0 b n;have hn6:n<65536:=by omega
   have hd1:=dig_one hn6;have hdl:(dig n).length=if n=0 then 0 else 1:=by rw[hd1];split<;>rfl
   have hcl:clZ (ZI b n) lo hi=ZI b n:=by unfold clZ;rw[Aa om,Aa om]
   refine zJ (zA ?_);refine zB (zE zO [] 600 rfl ?_);repeat(first|refine zH ?_|refine wG ?_)
   refine zC (zA (zB ?_));refine zB (zE zO [] 700 rfl ?_);repeat(first|refine zH ?_|refine wG ?_)
   refine zC (zA (zQ ?_));refine yB (ι:={k:Nat//k<=(dig n).length}) [3] [0] 750 (fun x=>[(8,.v (.int .i64 ((x.1:Int)-1))),(7,.v (.int .i64 (if x.1=0 then(n:Int)else 0)))]) (fun _=>[]) (fun x=>x.1) ⟨(dig n).length,Ap _⟩ ?_;refine⟨⟨⟨u19 rfl,u19 (by by_cases e:n=0<;>simp[hdl,e]),yK⟩,yH,rfl,rfl⟩,fun x=>?_⟩
   have hk1:=x.2;refine zB ?_;refine zB (zE zO [] 800 rfl ?_);repeat(first|refine zH ?_|refine wG ?_)
   refine zC (zA (zT rfl (fun c7=>?_) (fun c7=>?_)))
   ·have c7:x.1=1:=by
     have h9:=c7;simp at h9;split at hdl<;>omega
    have hn1:¬n=0:=fun h=>by rw[Ag h]at hdl;omega
    have hd2:dig n=[n]:=by rw[hd1,Aa hn1]
    refine zJ (zA (zB (zQ ?_)));refine zE zO [] 1000 rfl ?_;repeat(first|refine zH ?_|refine wG ?_)
    refine zC (zL (zA ?_));refine zE zO [] 1100 rfl ?_;repeat(first|refine zH ?_|refine wG ?_)
    refine zC ?_;exact zR ⟨0,Aq _⟩ ⟨⟨u19 (by rw[c7];rfl),u19 (by simp[c7,hd2]),yK⟩,yH,rfl,rfl⟩ (by show 0<x.1;omega)
   ·have c7:x.1=0:=by
     have h9:=c7;simp at h9;omega
    refine yF (zZ (yA (zW (zA (zB ?_)))));refine zB (zE zO [] 1100 rfl ?_);repeat(first|refine zH ?_|refine wG ?_)
    refine zC (zA (zX (fun c10=>?_) (fun c10=>?_)))
    ·
     refine zB (zE zO [] 1200 rfl ?_);repeat(first|refine zH ?_|refine wG ?_)
     refine zC (zA (zN (zM ?_)));subst c10;exact u1 rfl (u7 (by rw[hcl,Ag c7,Int.zero_sub];exact InI.wrap (ini om om)))
    ·
     refine zJ (zA ?_);refine zB (zE zO [] 1300 rfl ?_);repeat(first|refine zH ?_|refine wG ?_)
     refine zC (zA (zN ?_));have c10:b=false:=by simpa using c10
     subst c10;exact u1 rfl (u7 (by rw[hcl,Ag c7];rfl))
variable{md me:Bool}
theorem set_get{h:List Ob}{n:Nat}{o:Ob}(hn:n<h.length):(h.set n o).getD n ob0=o:=by
 rw[Aj,List.getElem?_set];simp[hn]
theorem set_same'{h:List Ob}{n:Nat}(hn:n<h.length):h.set n (h.getD n ob0)=h:=by
 apply List.ext_getElem?;intro j;rw[List.getElem?_set];split
 ·rename_i e;subst e;rw[Aj,Af hn];rfl
 ·rfl
variable{md me:Bool}
def sbK(h:List Ob)(v:Vl):Int:=if(v.k=4\/v.k=5)\/(yD h v).kind=1\/(yD h v).kind=2\/(yD h v).kind=5 then 1 else if(yD h v).kind=3 then 2 else 0
theorem opKindOf_ok(h:List Ob)(v:Vl)(hv:v.k=6->qA h v.r=true):Fx 26 [hpD md h,.agg (vlD v)] (.v (.int .i64 (sbK h v))):=by
 refine yM zO Tryz.func26 rfl rfl rfl rfl rfl rfl ?_;intros;refine zK 100 ?_;refine zB ?_;refine zB (zE zO [] 200 rfl ?_);refine zF ?_;refine zS _ (uQ h v hv) rfl ?_;refine zF ?_;refine zC (zA (zQ (zB (zK 300 ?_))));refine zX (fun c2=>?_) (fun c2=>?_)
 ·
  refine zJ (zA (zX (fun c2x=>?_) (fun c2x=>?_)))
  ·
   refine zK 700 ?_;refine zN (zP (zM ?_));exact u1 rfl (u7 (by unfold sbK;rw[Ag (by simp_all)]))
  ·
   simp_all
 ·
  refine zK 400 ?_;refine zX (fun c3=>?_) (fun c3=>?_)
  ·
   refine zJ (zA (zX (fun c3x=>?_) (fun c3x=>?_)))
   ·
    refine zK 700 ?_;refine zN (zP (zM ?_));exact u1 rfl (u7 (by unfold sbK;rw[Ag (by simp_all)]))
   ·
    simp_all
  ·
   refine zK 500 ?_;refine zX (fun c4=>?_) (fun c4=>?_)
   ·
    refine zJ (zA (zX (fun c4x=>?_) (fun c4x=>?_)))
    ·
     refine zK 700 ?_;refine zN (zP (zM ?_));exact u1 rfl (u7 (by unfold sbK;rw[Ag (by simp_all)]))
    ·
     simp_all
   ·
    refine yO zO [] 600 ?_;refine zA (zX (fun c5=>?_) (fun c5=>?_))
    ·
     refine zK 700 ?_;refine zN (zP (zM ?_));exact u1 rfl (u7 (by unfold sbK;rw[Ag (by simp_all)]))
    ·
     refine zK 800 ?_;refine zX (fun c7=>?_) (fun c7=>?_)
     ·
      refine zK 900 ?_;refine zN (zP (zM ?_));exact u1 rfl (u7 (by unfold sbK;rw[Aa (by simp_all),Ag (by simp_all)]))
     ·
      refine zJ (zL (zA (zK 1000 ?_)));refine zN ?_;exact u1 rfl (u7 (by unfold sbK;rw[Aa (by simp_all),Aa (by simp_all)]))
variable{md me:Bool}




variable{md me:Bool}
variable{md me:Bool}
variable{md me:Bool}
variable{md me:Bool}
variable{md me:Bool}
variable{md me:Bool}
variable{md me:Bool}
variable{md me:Bool}
def plnD(l:List St)(s:St):D:= .agg (stsD l::stD s)
variable{md me:Bool}
variable{md me:Bool}
theorem sbK_1{h:List Ob}{v:Vl}:sbK h v=1↔((v.k=4\/v.k=5)\/(yD h v).kind=1\/(yD h v).kind=2\/(yD h v).kind=5):=by
 unfold sbK;split
 ·exact⟨fun _=>by assumption,fun _=>rfl⟩
 ·split<;>(constructor<;>intro h9<;>first|contradiction|omega)
variable{md me:Bool}
theorem xJ0(l:List St)(s:St)(h:List Ob):chkG 2 (plnD l s) (hpO h)=true:=rfl
theorem mapset(l:List Vl)(i:Nat)(v:Vl):(l.set i v).map vlD=(l.map vlD).set i (vlD v):=List.map_set ..
def slE(z n lo hi:Int):Int:=clZ (if z<0 then z+n else z) lo hi
def slF(z n lo hi:Int):Int:=clZ (if clZ z (-n-1) n<0 then clZ z (-n-1) n+n else clZ z (-n-1) n) lo hi
theorem gV0{z n:Int}(h0:0<=n):slF z n 0 n=slE z n 0 n:=by
 unfold slF slE clZ;repeat' split
 all_goals omega
theorem gW0{z n:Int}(h0:0<=n):slF z n (-1) (n-1)=slE z n (-1) (n-1):=by
 unfold slF slE clZ;repeat' split
 all_goals omega
def slC(s b e:Int):Int:=if s<0 then max 0 (Int.tdiv (b-e-s-1) (-s))else max 0 (Int.tdiv (e-b+s-1) s)
theorem pJ0{s d k:Int}(hs:0<s)(hk:0<=k):k*s<d↔k<max 0 (Int.tdiv (d+s-1) s):=by
 by_cases hd:d<=0
 ·have h1:Int.tdiv (d+s-1) s<=0:=by
   by_cases h2:0<=d+s-1
   ·rw[Int.tdiv_eq_ediv_of_nonneg h2,Int.ediv_eq_zero_of_lt h2 om];omega
   ·have h3:=Int.tdiv_nonneg (a:= -(d+s-1)) (b:=s) om om;rw[Int.neg_tdiv]at h3;omega
  have h4:0<=k*s:=Int.mul_nonneg hk om;rw[show max 0 (Int.tdiv (d+s-1) s)=0 by omega];omega
 ·rw[Int.tdiv_eq_ediv_of_nonneg om];have h1:=Int.le_ediv_iff_mul_le (a:=k+1) (b:=d+s-1) hs;rw[Int.add_mul,Int.one_mul]at h1;generalize (d+s-1)/s=q at*;generalize k*s=m at*;omega
theorem vJ0{s b e k:Int}(hs:s≠0)(hk:0<=k):((0<s/\b+k*s<e)\/(s<0/\e<b+k*s))↔k<slC s b e:=by
 unfold slC;split
 ·rename_i h;have h1:=pJ0 (s:= -s) (d:=b-e) (k:=k) om hk;rw[Int.mul_neg,show b-e+ -s-1=b-e-s-1 by omega]at h1;generalize k*s=m at*;omega
 ·have h1:=pJ0 (s:=s) (d:=e-b) (k:=k) om hk;generalize k*s=m at*;omega
def slP(s b:Int)(c:Nat):List Int:=(List.range c).map fun k:Nat=>b+(k:Int)*s
theorem slC_nn(s b e:Int):0<=slC s b e:=by
 unfold slC;split<;>exact Int.le_max_left ..
theorem gdE{α:Type}(l:List α)(z:α){n:Nat}(h:n<l.length):l.getD n z=l[n]:=by
 rw[Aj,Af h];rfl
theorem vQ(s b:Int)(c:Nat):(slP s b c).length=c:=by simp[slP]
theorem slP_mem{s b:Int}{c:Nat}{x:Int}:x∈slP s b c↔∃k,k<c/\x=b+(k:Int)*s:=by
 unfold slP;rw[Bu];constructor
 ·rintro⟨k,h1,rfl⟩;exact⟨k,Cx.1 h1,rfl⟩
 ·rintro⟨k,h1,rfl⟩;exact⟨k,Cx.2 h1,rfl⟩
theorem xX(s b:Int)(k:Nat):slP s b (k+1)=slP s b k++[b+(k:Int)*s]:=by
 unfold slP;rw[List.range_succ,Ad];rfl
theorem sl_pos{s b e n:Int}{k:Nat}(hs:s≠0)(h1:0<s->0<=b/\e<=n)(h2:s<0->b<=n-1/\ -1<=e)(hk:(k:Int)<slC s b e):0<=b+(k:Int)*s/\b+(k:Int)*s<n:=by
 have h3:=(vJ0 (s:=s) (b:=b) (e:=e) (k:=(k:Int)) hs om).2 hk;rcases Int.lt_or_gt_of_ne hs with h|h
 ·have h4:=h2 h;have h5:0<=(k:Int)*(-s):=Int.mul_nonneg om om;rw[Int.mul_neg]at h5;generalize (k:Int)*s=m at*;omega
 ·have h4:=h1 h;have h5:0<=(k:Int)*s:=Int.mul_nonneg om om;generalize (k:Int)*s=m at*;omega
theorem gU0{s b:Int}{j k:Nat}(hs:s≠0)(h:b+(j:Int)*s=b+(k:Int)*s):j=k:=by
 have h1:(j:Int)*s=(k:Int)*s:=by omega
 have:=Int.eq_of_mul_eq_mul_right hs h1;omega
def tkL{α:Type}(z:α)(l:List α)(ps:List Int):List α:=ps.map fun p=>l.getD p.toNat z
def drI(ps:List Int)(n:Nat):List Nat:=(List.range n).filter fun i=> !decide ((i:Int)∈ps)
def drL{α:Type}(z:α)(l:List α)(ps:List Int)(n:Nat):List α:=(drI ps n).map fun i=>l.getD i z
theorem wY(ps:List Int)(n:Nat):drI ps (n+1)=drI ps n++(if(n:Int)∈ps then []else [n]):=by
 unfold drI;rw[List.range_succ,List.filter_append];by_cases h:(n:Int)∈ps<;>simp[h]
theorem xC0{α:Type}{z:α}{l:List α}{ps:List Int}{n:Nat}(h:(n:Int)∈ps):drL z l ps (n+1)=drL z l ps n:=by
 unfold drL;rw[wY,Ag h,Ca]
theorem kQ0{α:Type}{z:α}{l:List α}{ps:List Int}{n:Nat}(h:¬(n:Int)∈ps):drL z l ps (n+1)=drL z l ps n++[l.getD n z]:=by
 unfold drL;rw[wY,Aa h,Ad];rfl
theorem drI_pre(ps:List Int)(n m:Nat)(h:n<=m):∃r,drI ps m=drI ps n++r:=by
 induction m with
 |zero=>exact⟨[],by rw[show n=0 by omega];exact(Ca _).symm⟩
 |succ m ih=>
  rcases Bm m n with h1|h1
  ·exact⟨[],by rw[show n=m+1 by omega];exact(Ca _).symm⟩
  ·obtain⟨r,hr⟩:=ih h1;exact⟨r++(if(m:Int)∈ps then []else [m]),by rw[wY,hr,Co]⟩
theorem drI_at{ps:List Int}{n m:Nat}(h:n<m)(hp:¬(n:Int)∈ps):(drI ps m)[(drI ps n).length]?=some n:=by
 obtain⟨r,hr⟩:=drI_pre ps (n+1) m h;rw[hr,wY,Aa hp,Co,Bk (Ap _),Nat.sub_self];rfl
theorem drL_at{α:Type}{z:α}{l:List α}{ps:List Int}{n m:Nat}(h:n<m)(hp:¬(n:Int)∈ps):(drI ps n).length<(drL z l ps m).length/\(drL z l ps m).getD (drI ps n).length z=l.getD n z:=by
 have h1:=drI_at h hp;have h2:(drL z l ps m)[(drI ps n).length]?=some (l.getD n z):=by
  unfold drL;rw[Bf,h1];rfl
 exact⟨(Ac.1 h2).1,by rw[Aj,h2];rfl⟩
theorem drI_one(q:Nat->Bool)(a:Nat)(n:Nat):((List.range n).filter fun i=>q i&& !decide (i=a)).length+(if a<n/\q a=true then 1 else 0)=((List.range n).filter q).length:=by
 induction n with
 |zero=>simp
 |succ n ih=>
  rw[List.range_succ,List.filter_append,List.filter_append,Ae,Ae];by_cases h:n=a
  ·subst h;rw[Aa om]at ih
   cases hq:q n<;>simp[hq]<;>omega
  ·have e1:(if a<n+1/\q a=true then 1 else 0)=(if a<n/\q a=true then 1 else 0:Nat):=by
    congr 1;apply propext;constructor<;>rintro⟨h1,h2⟩<;>exact⟨by omega,h2⟩
   rw[e1]
   cases hq:q n<;>simp[hq,h]<;>omega
theorem drI_len{s b:Int}{n:Nat}(hs:s≠0):∀c:Nat,(∀k,k<c->0<=b+(k:Int)*s/\b+(k:Int)*s<(n:Int))->(drI (slP s b c) n).length+c=n:=by
 intro c;induction c with
 |zero=>
  intro _;have e:drI (slP s b 0) n=List.range n:=List.filter_eq_self.2 fun _ _=>rfl;rw[e,List.length_range];rfl
 |succ c ih=>
  intro h;have h1:=ih (fun k hk=>h k om);have h2:=h c om;have h3:=drI_one (fun i=> !decide ((i:Int)∈slP s b c)) (b+(c:Int)*s).toNat n;have h4:¬(b+(c:Int)*s)∈slP s b c:=fun hm=>by
   obtain⟨k,hk1,hk2⟩:=slP_mem.1 hm;have:=gU0 hs hk2;omega
  rw[Ag ⟨by omega,by
   show(!decide ((((b+(c:Int)*s).toNat:Nat):Int)∈slP s b c))=true;rw[Int.toNat_of_nonneg h2.1,Cl h4];rfl⟩]at h3
  have h5:drI (slP s b (c+1)) n=(List.range n).filter fun i:Nat=>(!decide ((i:Int)∈slP s b c))&& !decide (i=(b+(c:Int)*s).toNat):=by
   unfold drI;congr 1;funext i
   rw[xX,<-Bool.not_or];congr 1;rw[Bool.eq_iff_iff];simp only[Ai,Az,List.mem_singleton,Cc];constructor<;>rintro(h6|h6)
   ·exact .inl h6
   ·exact .inr om
   ·exact .inl h6
   ·exact .inr om
  rw[h5];unfold drI at h1;omega
theorem kR0(ps:List Int)(n:Nat):(drI ps n).length<=n:=by
 unfold drI;exact Bg (List.length_filter_le ..) (by simp)
theorem xD0{α:Type}{z:α}{l:List α}(ps:List Int)(n:Nat):(drL z l ps n).length=(drI ps n).length:=by simp[drL]
def puL{α:Type}(z:α)(l:List α)(s b:Int)(w:List α):Nat->List α
 |0=>l
 |k+1=>(puL z l s b w k).set (b+(k:Int)*s).toNat (w.getD k z)
theorem vR0{α:Type}(z:α)(l:List α)(s b:Int)(w:List α)(k:Nat):(puL z l s b w k).length=l.length:=by
 induction k with
 |zero=>rfl
 |succ k ih=>rw[puL,Ck,ih]
theorem puL_back{α:Type}(z:α)(l:List α)(s b:Int)(c k:Nat)(h:k<=c)(hp:∀k,k<c->0<=b+(k:Int)*s/\b+(k:Int)*s<(l.length:Int)):puL z l s b (tkL z l (slP s b c)) k=l:=by
 induction k with
 |zero=>rfl
 |succ k ih=>
  rw[puL,ih om];have h1:=hp k om;have e:(tkL z l (slP s b c)).getD k z=l.getD (b+(k:Int)*s).toNat z:=by
   unfold tkL;rw[Aj,Bf];have h2:(slP s b c)[k]?=some (b+(k:Int)*s):=by simp[slP,show k<c by omega]
   rw[h2];rfl
  rw[e,gdE _ _ om];exact List.set_getElem_self _
theorem kD{α:Type}(z:α)(l:List α)(ps:List Int):(tkL z l ps).length=ps.length:=by simp[tkL]
theorem tkL_get{α:Type}(z:α)(l:List α)(ps:List Int)(k:Nat)(h:k<ps.length):(tkL z l ps).getD k z=l.getD (ps.getD k 0).toNat z:=by
 simp[tkL,List.getD,h]
theorem gS0{α:Type}{z:α}{l:List α}{s b:Int}{c:Nat}(hp:∀k,k<c->0<=b+(k:Int)*s/\b+(k:Int)*s<(l.length:Int)):∀x∈tkL z l (slP s b c),x∈l:=by
 intro x hx;obtain⟨p,h1,rfl⟩:=Bu.1 hx;obtain⟨k,h2,rfl⟩:=slP_mem.1 h1;have h3:=hp k h2;rw[gdE _ _ om];exact Di _
def ixN(l:List Int)(x:Int):Int:=if x∈l then((l.idxOf x:Nat):Int)else-1
theorem yA0{l:List Int}{x:Int}(h:x∈l):0<=ixN l x/\(ixN l x).toNat<l.length/\l.getD (ixN l x).toNat 0=x:=by
 unfold ixN;rw[Ag h];have h1:=List.idxOf_lt_length_iff.2 h;refine⟨by omega,h1,?_⟩;show l.getD (l.idxOf x) 0=x;rw[gdE _ _ h1];exact List.getElem_idxOf h1
theorem kH0{l:List Int}{x:Int}(h:¬x∈l):ixN l x= -1:=Aa h
theorem ixN_at{l:List Int}{x:Int}{k:Nat}(h:k<l.length)(h1:l.getD k 0=x)(h2:∀j,j<k->l.getD j 0≠x):ixN l x=(k:Int):=by
 have hm:x∈l:=by rw[<-h1,gdE _ _ h];exact Di _
 obtain⟨a1,a2,a3⟩:=yA0 hm;unfold ixN at*;rw[Ag hm]at*;have h3:¬l.idxOf x<k:=fun h4=>h2 _ h4 a3;have h4:¬k<l.idxOf x:=fun h5=>by
  have:=List.not_of_lt_findIdx (p:=(·==x)) (xs:=l) (i:=k) h5;rw[gdE _ _ h]at h1;simp[h1]at this
 omega
theorem ixN_none{l:List Int}{x:Int}(h:∀j,j<l.length->l.getD j 0≠x):ixN l x= -1:=kH0 fun hm=>by
 obtain⟨i,h1,h2⟩:=List.mem_iff_getElem.1 hm;exact h i h1 (by rw[gdE _ _ h1,h2])
variable{md me:Bool}
def sicD(a b c:Int)(f g h:Bool):List D:=[.v (.bool (decide (a<0))),usD (lim a.natAbs),.v (.bool (decide (b<0))),usD (lim b.natAbs),.v (.bool (decide (c<0))),usD (lim c.natAbs),.v (.bool f),.v (.bool g),.v (.bool h)]
structure SlK(a b c:Int)(f g h:Bool):Prop where
 la:(lim a.natAbs).length<=128
 lb:(lim b.natAbs).length<=128
 lc:(lim c.natAbs).length<=128
 fa:f=false->a=0
 gb:g=false->b=0
 hc:h=false->c=0
 nz:h=true->¬c=0
theorem pL0:lim (0:Int).natAbs=[]:=Ax (Nat.le_zero.1 (gF (n:=0) (k:=0) de))
theorem lim_z':lim 0=[]:=pL0
theorem zP0{a b:Int}(h1: -100000<=a)(h2:a<=100000):InI (a.tdiv b):=by
 have h5:(a.tdiv b).natAbs<=a.natAbs:=by rw[Int.natAbs_tdiv];exact Nat.div_le_self _ _
 exact ini om om
theorem lim_nz{c:Int}(h:¬c=0):¬(lim c.natAbs).length=0:=fun h1=>by
 have h2:=pR0 c.natAbs;rw[Ax h1]at h2;have h3:VL []=0:=rfl;omega
def rzS(c:Int)(h:Bool):Int:=if h=true then clZ c (-10000) 10000 else 1
def rzL(s:Int):Int:=if s<0 then-1 else 0
def rzH(s n:Int):Int:=if s<0 then n-1 else n
def rzB(a s n:Int)(f:Bool):Int:=if f=true then slE a n (rzL s) (rzH s n)else if s<0 then rzH s n else rzL s
def rzE(b s n:Int)(g:Bool):Int:=if g=true then slE b n (rzL s) (rzH s n)else if s<0 then rzL s else rzH s n
theorem jS0{z a b:Int}(h:a<=b):a<=clZ z a b/\clZ z a b<=b:=by
 unfold clZ;split
 ·omega
 ·split<;>omega
theorem clZ_nz{z a b:Int}(h:¬z=0)(ha:a<0)(hb:0<b):¬clZ z a b=0:=by
 unfold clZ;split
 ·omega
 ·split<;>omega
theorem mC0(s n:Int)(h0:0<=n):rzL s<=rzH s n:=by
 unfold rzL rzH;split<;>omega
theorem vO0{a s n:Int}{f:Bool}(h0:0<=n):rzL s<=rzB a s n f/\rzB a s n f<=rzH s n:=by
 have h1:=mC0 s n h0;unfold rzB;split
 ·exact jS0 h1
 ·split<;>omega
theorem vN0{a s n:Int}{f:Bool}(h0:0<=n):rzL s<=rzE a s n f/\rzE a s n f<=rzH s n:=by
 have h1:=mC0 s n h0;unfold rzE;split
 ·exact jS0 h1
 ·split<;>omega
theorem vM0{c:Int}{h:Bool}: -10000<=rzS c h/\rzS c h<=10000:=by
 unfold rzS;split
 ·exact jS0 om
 ·omega
theorem gZ0{a b c:Int}{f g h:Bool}(K:SlK a b c f g h):¬rzS c h=0:=by
 unfold rzS;split
 ·rename_i h1;exact clZ_nz (K.nz h1) om om
 ·omega
structure RzQ(s b:Int)(c:Nat)(n:Nat):Prop where
 s1: -10000<=s
 s2:s<=10000
 nz:¬s=0
 b1: -1<=b
 b2:b<=n
 up:0<s->0<=b
 dn:s<0->b<=(n:Int)-1
 at_:∀k:Nat,k<c->0<=b+(k:Int)*s/\b+(k:Int)*s<(n:Int)
 cn:c<=n
def rzC(b s n:Int)(B:Int)(g:Bool):Nat:=(slC s B (rzE b s n g)).toNat
theorem zU0{b s n B:Int}{g:Bool}:((rzC b s n B g:Nat):Int)=slC s B (rzE b s n g):=Int.toNat_of_nonneg (slC_nn _ _ _)
theorem rzQ{a b c:Int}{f g h:Bool}{n:Nat}(K:SlK a b c f g h):RzQ (rzS c h) (rzB a (rzS c h) n f) (rzC b (rzS c h) n (rzB a (rzS c h) n f) g) n:=by
 have hs:=gZ0 K;have h1:=vM0 (c:=c) (h:=h);generalize rzS c h=s at*;have h2:=vO0 (a:=a) (s:=s) (n:=(n:Int)) (f:=f) om;have h3:=vN0 (a:=b) (s:=s) (n:=(n:Int)) (f:=g) om;have h4:(0<s->rzL s=0/\rzH s n=n)/\(s<0->rzL s= -1/\rzH s n=(n:Int)-1):=by
  unfold rzL rzH;constructor
  ·intro h;rw[Aa om,Aa om];exact⟨rfl,rfl⟩
  ·intro h;rw[Ag h,Ag h];exact⟨rfl,rfl⟩
 generalize rzB a s n f=B at*;have h5:∀k:Nat,k<rzC b s n B g->0<=B+(k:Int)*s/\B+(k:Int)*s<(n:Int):=fun k hk=>by
  refine sl_pos hs ?_ ?_ (e:=rzE b s n g) (by rw[<-zU0];omega)
  ·intro h;have:=h4.1 h;omega
  ·intro h;have:=h4.2 h;omega
 have h6:B<=(n:Int)/\ -1<=B/\(0<s->0<=B)/\(s<0->B<=(n:Int)-1):=by
  rcases Int.lt_or_gt_of_ne hs with h|h
  ·have:=h4.2 h;exact⟨by omega,by omega,by omega,by omega⟩
  ·have:=h4.1 h;exact⟨by omega,by omega,by omega,by omega⟩
 refine⟨h1.1,h1.2,hs,h6.2.1,h6.1,h6.2.2.1,h6.2.2.2,h5,?_⟩;rcases Bp (rzC b s n B g)with h|h
 ·omega
 ·have h7:=h5 (rzC b s n B g-1) om;rcases Int.lt_or_gt_of_ne hs with h8|h8
  ·have h9:((rzC b s n B g-1:Nat):Int)*1<=((rzC b s n B g-1:Nat):Int)*(-s):=Int.mul_le_mul_of_nonneg_left om om;rw[Int.mul_neg]at h9;have:=h6.2.2.2 h8;generalize ((rzC b s n B g-1:Nat):Int)*s=m at*;omega
  ·have h9:((rzC b s n B g-1:Nat):Int)*1<=((rzC b s n B g-1:Nat):Int)*s:=Int.mul_le_mul_of_nonneg_left om om;have:=h6.2.2.1 h8;generalize ((rzC b s n B g-1:Nat):Int)*s=m at*;omega
def pB0:ByteArray:=⟨#[115,108,105,99,101,32,112,97,114,116,115,32,109,117,115,116,32,98,101,32,105,110,116,101,103,101,114,115,32,111,114,32,110,105,108]⟩
def pA0:ByteArray:=⟨#[115,116,101,112,32,109,117,115,116,32,110,111,116,32,98,101,32,122,101,114,111]⟩
def kOk(v:Vl):Prop:=v.k=2\/v.k=0
instance(v:Vl):Decidable (kOk v):=inferInstanceAs (Decidable (v.k=2\/v.k=0))
def sptS(p q r:Vl):St:=if ¬(kOk p/\kOk q/\kOk r)then raS 32 pB0 else if r.k=2/\r.nl.length=0 then raS 33 pA0 else st0
def pgB(v:Vl):Bool:=decide (v.k=2)
def zeD:List D:=[.v (.bool false),usD [],.v (.bool false),usD [],.v (.bool false),usD [],.v (.bool false),.v (.bool false),.v (.bool false)]
def psD(p q r:Vl):List D:=if(sptS p q r).k=1 then zeD else sicD (pxI p) (pxI q) (pxI r) (pgB p) (pgB q) (pgB r)
def p3D(p q r:Vl):List D:=[.v (.int .i64 p.k),.v (.bool p.nn),usD p.nl,.v (.bool p.dn),usD p.dl,.v (.string p.s),.v (.int .i64 p.r),.v (.int .i64 q.k),.v (.bool q.nn),usD q.nl,.v (.bool q.dn),usD q.dl,.v (.string q.s),.v (.int .i64 q.r),.v (.int .i64 r.k),.v (.bool r.nn),usD r.nl,.v (.bool r.dn),usD r.dl,.v (.string r.s),.v (.int .i64 r.r)]
theorem pt_1{p q r:Vl}(h:¬(sptS p q r).k=1):(kOk p/\kOk q/\kOk r)/\¬(r.k=2/\r.nl.length=0)/\sptS p q r=st0:=by
 unfold sptS at*;split at h
 ·exact absurd rfl h
 ·rename_i h1;split at h
  ·exact absurd rfl h
  ·rename_i h2;exact⟨Classical.not_not.1 h1,h2,by rw[Aa h1,Aa h2]⟩
theorem px_0{v:Vl}(hv:yR v=true)(h:v.k=0):pxI v=0:=by
 unfold yR at hv;rw[Ag (.inl h)]at hv;simp only[Ah]at hv;have h1:=hv.1.1.1;rw[zI,zT0]at h1;unfold pxI;rw[h1.1,h1.2];rfl
theorem px_nz{v:Vl}(hg:Lg v.nl)(hv:yR v=true)(h:¬v.nl.length=0):¬pxI v=0:=fun h1=>by
 have e:=(dW hg (dL hg hv)).1;have h2:(pxI v).natAbs=VL v.nl:=uG0 _ _;rw[h1]at h2;rw[<-h2]at e;exact h (by rw[e,pL0];rfl)
theorem slK{p q r:Vl}(hp:Lg p.nl/\yR p=true)(hq:Lg q.nl/\yR q=true)(hr:Lg r.nl/\yR r=true)(h:¬(sptS p q r).k=1):SlK (pxI p) (pxI q) (pxI r) (pgB p) (pgB q) (pgB r):=by
 obtain⟨⟨h1,h2,h3⟩,h4,-⟩:=pt_1 h;have hf:∀{v:Vl},yR v=true->kOk v->pgB v=false->pxI v=0:=fun hv hk hb=>px_0 hv (hk.resolve_left (of_decide_eq_false hb));exact⟨(mE0 hp.1 hp.2).2,(mE0 hq.1 hq.2).2,(mE0 hr.1 hr.2).2,hf hp.2 h1,hf hq.2 h2,hf hr.2 h3,fun h5=>px_nz hr.1 hr.2 fun h6=>h4 ⟨Ar h5,h6⟩⟩
theorem mW(z:Int)(f:Bool)(hz:(lim z.natAbs).length<=128)(hf:f=false->z=0):Fx 136 [.agg (zV z),.v (.bool f)] (.v (.bool true)):=by
 have hk:=zOk (z:=z) om;refine yM zO Tryz.func136 rfl rfl rfl rfl rfl rfl ?_;intros;refine zK 100 ?_;refine zB (zE zO [] 200 rfl ?_);refine zF ?_;refine zS _ ((pG (decide (z<0)) (lim z.natAbs) om).out (u5 hk)) rfl ?_;refine zf (zA (zN ?_));exact u1 rfl (u5 (by cases f with|true=>simp|false=>simp[hf rfl,lim_z']))
theorem slCheck_ok(a b c:Int)(f g h:Bool)(K:SlK a b c f g h):Fx 83 [.agg (sicD a b c f g h)] (faD 0 0):=by
 have hnz:=fun h0=>lim_nz (K.nz h0);refine yM zO Tryz.func83 rfl rfl rfl rfl rfl rfl ?_;intros;refine zK 100 ?_;refine zB ?_;refine zB (zE zO [] 200 rfl ?_);refine zF ?_;refine zS _ (mW a f K.la K.fa) rfl ?_;refine zF ?_;refine yP _ (fun hg11=>mW b g K.lb K.gb) rfl ?_;refine zF ?_;refine yP _ (fun hg19=>mW c h K.lc K.hc) rfl ?_;refine zF ?_;refine zC (zA (zX (fun c1=>?_) (fun c1=>?_)))
 ·
  simp at c1
 ·
  refine zJ (zA (zB (zK 400 ?_)));refine zX (fun c3=>?_) (fun c3=>?_)
  ·
   cases h with
   |true=>have h9:=hnz rfl;simp at c3;exact absurd c3 (by simpa using h9)
   |false=>simp at c3
  ·
   refine zJ (zA (zK 600 ?_));refine zN ?_;exact u1 rfl (u4 _)
theorem pF0{P:Program}{E:Pn}{K:DS->Prop}{p:Prop}{r:Out}(hr:r.sat P E K)(hp:p:=by first|(rw[hw1];exact ini om om)|(rw[hw2];exact ini om om)|exact Dl):(Out.need p r).sat P E K:=⟨hp,hr⟩
theorem mI(z n lo hi:Int)(hz:(lim z.natAbs).length<=128)(h0:0<=n)(h1:n<=4000)(hl:lo<=hi):Fx 85 [.agg (zV z),.v (.int .i64 n),.v (.int .i64 lo),.v (.int .i64 hi)] (.v (.int .i64 (slF z n lo hi))):=by
 have hw1:IntKind.i64.wrap (-n)= -n:=InI.wrap (ini om om);have hw2:IntKind.i64.wrap (0-n)= -n:=by rw[Int.zero_sub];exact hw1
 have hcl:=jS0 (z:=z) (show-n-1<=n by omega);refine yM zO Tryz.func85 rfl rfl rfl rfl rfl rfl ?_;intros;refine zK 100 ?_;refine zB (zE zO [] 200 rfl ?_);repeat(first|refine zH ?_|refine pF0 ?_)
 refine zS _ ((kX z (-n-1) n hz om om om).args ⟨u4 _,u7 (by rw[hw2]),u4 _,trivial⟩) rfl ?_;repeat(first|refine zH ?_|refine pF0 ?_)
 refine zC (zA (zB (zK 300 ?_)));refine zT rfl (fun c2=>?_) (fun c2=>?_)
 ·have c2:clZ z (-n-1) n<0:=Ar c2;refine yO zO [] 400 ?_;refine zA (zK 500 ?_);refine zN ?_;exact u1 rfl (u7 (by unfold slF;rw[Ag c2];generalize clZ z (-n-1) n=q at*;unfold clZ;split<;>(try split)<;>omega))
 ·have c2:¬clZ z (-n-1) n<0:=of_decide_eq_false c2;refine zJ (zA (zK 500 ?_));refine zN ?_;exact u1 rfl (u7 (by unfold slF;rw[Aa c2];generalize clZ z (-n-1) n=q at*;unfold clZ;split<;>(try split)<;>omega))
theorem wH(a b c n:Int)(f g h:Bool)(K:SlK a b c f g h)(h0:0<=n)(h1:n<=4000):Fx 42 [.agg (sicD a b c f g h),.v (.int .i64 n)] (.tup [.v (.int .i64 (rzB a (rzS c h) n f)),.v (.int .i64 (rzS c h)),.v (.int .i64 ((rzC b (rzS c h) n (rzB a (rzS c h) n f) g):Nat)),faD 0 0]):=by
 have hws:IntKind.i64.wrap (-(rzS c h))= -(rzS c h):=InI.wrap (by have h9:=vM0 (c:=c) (h:=h);exact ini om om);have hws2:IntKind.i64.wrap (0-(rzS c h))= -(rzS c h):=by rw[Int.zero_sub];exact hws
 have hs:=vM0 (c:=c) (h:=h);have hsz:=gZ0 K;have hB:=vO0 (a:=a) (s:=(rzS c h)) (n:=n) (f:=f) h0;have hE:=vN0 (a:=b) (s:=(rzS c h)) (n:=n) (f:=g) h0;have hlo: -1<=rzL (rzS c h):=by unfold rzL;split<;>omega
 have hhi:rzH (rzS c h) n<=n:=by unfold rzH;split<;>omega
 have hC:=zU0 (b:=b) (s:=(rzS c h)) (n:=n) (B:=(rzB a (rzS c h) n f)) (g:=g);refine yM zO Tryz.func42 rfl rfl rfl rfl rfl rfl ?_;intros;refine zK 100 ?_;refine zB ?_;refine zB (zE zO [] 200 rfl ?_);refine zF ?_;refine zS _ (slCheck_ok a b c f g h K) rfl ?_;refine zF ?_;refine zC (zA (zK 300 ?_));refine zX (fun c2=>?_) (fun c2=>?_)
 ·
  exact absurd c2 de
 ·
  refine zJ (zA (zB (zK 500 ?_)));refine zX (fun c4=>?_) (fun c4=>?_)
  ·
   first|omega|(simp at c4;omega)
  ·
   refine zJ (zA (zK 700 ?_));refine uH (ι:=Unit) [1,2,7] [0,4] 1100 (fun _=>[(5,.v (.int .i64 (rzS c h)))]) (fun _=>[]) ?_;refine⟨?_,fun _=>?_⟩
   ·refine zK 800 ?_;refine zT rfl (fun c7=>?_) (fun c7=>?_)
    ·have c7:h=true:=by simpa using c7
     refine zE zO [] 900 rfl ?_;refine zF ?_;refine zS _ (kX c (-10000) 10000 K.lc om om om) rfl ?_;refine zf ?_;exact yS () ⟨⟨u19 (Ag c7).symm,yK⟩,yH,rfl,rfl⟩
    ·have c7:h=false:=by simpa using c7
     refine zJ ?_;exact yS () ⟨⟨u19 (Aa (by rw[c7];decide)).symm,yK⟩,yH,rfl,rfl⟩
   refine zK 1200 ?_;refine zB (zK 1300 ?_);refine zT rfl (fun c10=>?_) (fun c10=>?_)
   ·have c10:(rzS c h)<0:=by simpa using c10
    refine yO zO [] 1400 ?_;refine zA (zK 1500 ?_);refine zB (zK 1600 ?_);refine zX (fun c13=>?_) (fun c13=>?_)
    ·
     refine yO zO [] 1700 ?_;refine zA ?_;refine uH (ι:=Unit) [1,2,5,7,9,10,11] [0,4] 1900 (fun _=>[(4,.v (.int .i64 (rzB a (rzS c h) n f)))]) (fun _=>[]) ?_;refine⟨?_,fun _=>?_⟩
     ·refine zK 1800 ?_;refine zT rfl (fun c15=>?_) (fun c15=>?_)
      ·have c15:f=true:=by simpa using c15
       refine zE zO [] 1900 rfl ?_;refine zF ?_;refine zS _ (mI a n _ _ K.la h0 h1 om) rfl ?_;refine zf ?_;exact yS () ⟨⟨u19 (by rw[rzB,Ag c15,rzL,rzH,Ag c10,Ag c10];exact gW0 om),yK⟩,yH,rfl,rfl⟩
      ·have c15:f=false:=by simpa using c15
       refine zJ ?_;exact yS () ⟨⟨u19 (by rw[rzB,Aa (by rw[c15];decide),Ag c10,rzH,Ag c10]),yK⟩,yH,rfl,rfl⟩
     refine uH (ι:=Unit) [4,5,7] [4] 2100 (fun _=>[(11,.v (.int .i64 (rzE b (rzS c h) n g)))]) (fun _=>[]) ?_;refine⟨?_,fun _=>?_⟩
     ·refine zK 2000 ?_;refine zT rfl (fun c17=>?_) (fun c17=>?_)
      ·have c17:g=true:=by simpa using c17
       refine zE zO [] 2100 rfl ?_;refine zF ?_;refine zS _ (mI b n _ _ K.lb h0 h1 om) rfl ?_;refine zf ?_;exact yS () ⟨⟨u19 (by rw[rzE,Ag c17,rzL,rzH,Ag c10,Ag c10];exact gW0 om),yK⟩,yH,rfl,rfl⟩
      ·have c17:g=false:=by simpa using c17
       refine zJ ?_;exact yS () ⟨⟨u19 (by rw[rzE,Aa (by rw[c17];decide),Ag c10,rzL,Ag c10]),yK⟩,yH,rfl,rfl⟩
     refine zB (zK 2200 ?_);refine zX (fun c19=>?_) (fun c19=>?_)
     ·
      refine zB (yE zO [] [[],[],[],[],[2,3],[],[2,3,4,5],[2,3,4,5,6],[],[8],[2,3,4,5,6,7,8,9],[2,3,4,5,6,7,8,9,10],[],[0,2,5,8],[0,1,2,5,8,13],[0,1,2,3,4,5,6,7,8,9,10,11,13,14],(rgN 16)] 2300 yX kr rfl ?_);repeat(first|refine zH ?_|refine zU (by first|exact⟨by rw[hws];omega,zP0 om om⟩|exact⟨by rw[hws2];omega,zP0 om om⟩|exact Dl) ?_)
      refine zC (zA (zN (zM ?_)));exact u1 rfl (SubP.tup ⟨u4 _,u4 _,u7 (by rw[hC];unfold slC;rw[Ag c10,hws2];split<;>omega),u4 _,trivial⟩)
     ·
      omega
    ·
     omega
   ·have c10:¬(rzS c h)<0:=by simpa using c10
    refine zJ (zA (zK 1400 ?_));refine zB (zK 1500 ?_);refine zX (fun c13=>?_) (fun c13=>?_)
    ·
     omega
    ·
     refine zJ (zA ?_);refine uH (ι:=Unit) [1,2,5,7,9,10,11] [0,4] 1900 (fun _=>[(4,.v (.int .i64 (rzB a (rzS c h) n f)))]) (fun _=>[]) ?_;refine⟨?_,fun _=>?_⟩
     ·refine zK 1600 ?_;refine zT rfl (fun c15=>?_) (fun c15=>?_)
      ·have c15:f=true:=by simpa using c15
       refine zE zO [] 1700 rfl ?_;refine zF ?_;refine zS _ (mI a n _ _ K.la h0 h1 om) rfl ?_;refine zf ?_;exact yS () ⟨⟨u19 (by rw[rzB,Ag c15,rzL,rzH,Aa c10,Aa c10];exact gV0 om),yK⟩,yH,rfl,rfl⟩
      ·have c15:f=false:=by simpa using c15
       refine zJ ?_;exact yS () ⟨⟨u19 (by rw[rzB,Aa (by rw[c15];decide),Aa c10,rzL,Aa c10]),yK⟩,yH,rfl,rfl⟩
     refine uH (ι:=Unit) [4,5,7] [4] 2100 (fun _=>[(11,.v (.int .i64 (rzE b (rzS c h) n g)))]) (fun _=>[]) ?_;refine⟨?_,fun _=>?_⟩
     ·refine zK 2000 ?_;refine zT rfl (fun c17=>?_) (fun c17=>?_)
      ·have c17:g=true:=by simpa using c17
       refine zE zO [] 2100 rfl ?_;refine zF ?_;refine zS _ (mI b n _ _ K.lb h0 h1 om) rfl ?_;refine zf ?_;exact yS () ⟨⟨u19 (by rw[rzE,Ag c17,rzL,rzH,Aa c10,Aa c10];exact gV0 om),yK⟩,yH,rfl,rfl⟩
      ·have c17:g=false:=by simpa using c17
       refine zJ ?_;exact yS () ⟨⟨u19 (by rw[rzE,Aa (by rw[c17];decide),Aa c10,rzH,Aa c10]),yK⟩,yH,rfl,rfl⟩
     refine zB (zK 2200 ?_);refine zX (fun c19=>?_) (fun c19=>?_)
     ·
      omega
     ·
      refine zJ (zA ?_);refine zB (yE zO [] [[],[],[],[],[2,3],[],[2,3,4,5],[2,3,4,5,6],[],[2,3,4,5,6,7,8],[2,3,4,5,6,7,8,9],[],[0,3,5,8],[0,1,3,5,8,12],[0,1,2,3,4,5,6,7,8,9,10,12,13],(rgN 15)] 2300 yX kr rfl ?_);repeat(first|refine zH ?_|refine zU (by first|exact⟨by omega,zP0 (by omega) (by omega)⟩|exact Dl) ?_)
      refine zC (zA (zN ?_));exact u1 rfl (SubP.tup ⟨u4 _,u4 _,u7 (by rw[hC];unfold slC;rw[Aa c10];split<;>omega),u4 _,trivial⟩)
end Go.Proofs.YtmakjjodkiedmaaGreatDoor
