/-Part 19 of the proof. -/
import Derived.Test.YtmakjjodkiedmaaGreatDoorM18
import Derived.Shelf.Spec.SlicesGrow
import Derived.Shelf.Strconv.Itoa3
namespace Go.Proofs.YtmakjjodkiedmaaGreatDoor
open Go.RowKit
variable{md me:Bool}
def rfV(r:Int):Vl:=⟨6,false,[],false,[],ByteArray.empty,r⟩
noncomputable def shS (a b:List Ob):Bool:=decide (a.length=b.length)&&(List.range a.length).all fun j=>decide (a.getD j ob0=b.getD j ob0)
theorem shS_self(a:List Ob):shS a a=true:=by simp[shS]
theorem heapRef_ok(r:Int):Fx 62 [.v (.int .i64 r)] (.agg (vlD (rfV r))):=by
 refine yM zO Tryz.func62 rfl rfl rfl rfl rfl rfl ?_;intros;refine zK 100 ?_;refine zK 200 ?_;refine zN ?_;exact u1 rfl (SubP.agg nq9)
theorem dC(a b:List Ob)(ha:a.length<=2000000)(hb:b.length<=2000000):Fx 14 [hpD md a,hpD me b] (.v (.bool (shS a b))):=by
 refine yM zO Tryz.func14 rfl rfl rfl rfl rfl rfl ?_;intros;refine zK 100 ?_;refine zB (zK 200 ?_);refine zT rfl (fun c1=>?_) (fun c1=>?_)
 ·replace c1:¬a.length=b.length:=by have:=c1;simp only[Bd,Av]at this;omega
  refine zK 300 ?_;refine zN (zM ?_);exact u1 rfl (u5 (by rw[shS,Cl c1];rfl))
 ·replace c1:a.length=b.length:=by have:=c1;simp only[Be,Ai]at this;omega
  refine zJ (zA (zB (zK 400 ?_)));refine zQ ?_;refine yB (ι:=Up a.length (fun j=>decide (a.getD j ob0=b.getD j ob0))) [2,3,15] [0,1] 450 (fun x=>[(16,.v (.int .i64 x.k))]) (fun _=>[]) (fun x=>a.length-x.k) ⟨0,Aq _,fun j hj=>by omega⟩ ?_;refine⟨⟨yK,yH,rfl,rfl⟩,fun x=>?_⟩;have hk:=x.le;refine zK 500 ?_;refine zB (zT rfl (fun c4=>?_) (fun c4=>?_))
  ·replace c4:=Ar c4
   replace c4:x.k<a.length:=by omega
   refine zJ (zA (zB (zQ (zK 600 ?_))));refine zB (yE zO [] [[],[0],[],[0,1,2],[0,1,2,3],[],[5],[],[5,6,7],[5,6,7,8],(rgN 10),(rgN 11)] 700 yX kr rfl ?_);repeat(first|refine zH ?_|refine zU (by exact⟨by omega,by omega⟩) ?_)
   refine zS _ (gR _ _) rfl ?_;repeat(first|refine zH ?_|refine zU (by exact⟨by omega,by omega⟩) ?_)
   refine zC (zA (zT rfl (fun c6=>?_) (fun c6=>?_)))
   ·replace c6:decide (a.getD x.k ob0=b.getD x.k ob0)=false:=by have h1:=c6;rw[Bd]at h1;exact h1
    refine zK 800 ?_;refine zN (zP (zM (yL (zP (zM ?_)))));exact u1 rfl (u5 (by rw[shS,Up.no (p:=fun j=>decide (a.getD j ob0=b.getD j ob0)) c4 c6,Bool.and_false]))
   ·replace c6:decide (a.getD x.k ob0=b.getD x.k ob0)=true:=by have h1:=c6;rw[Be]at h1;exact h1
    refine zJ (zL (zA (yO zO [] 900 ?_)));exact zR (x.next c4 c6) ⟨yK,yH,rfl,rfl⟩ (by show a.length-(x.k+1)<a.length-x.k;omega)
  ·replace c4:=of_decide_eq_false c4
   replace c4:¬x.k<a.length:=by omega
   refine yF (zZ (yA (zW (zA (zK 1000 ?_)))));refine zN ?_;exact u1 rfl (u5 (by rw[shS,Bo c1,x.yes c4];rfl))
variable{md me:Bool}
def kcL:List Int:=[2,3,4,5,6,7,0,15,27,2]
def ocL:List Int:=[0,8,9,10,11,12,13,14,16,1,0,17,18,19,20,21,22,23,24,25,26]
def ocS(o:Ob):Int:=if o.kind=10 then o.cls else ocL.getD o.kind.toNat 0
def clA(h:List Ob)(v:Vl):Int:=if v.k=6 then ocS (yV h v.r)else kcL.getD v.k.toNat 0
variable{md me:Bool}
variable{md me:Bool}
variable{md me:Bool}
variable{md me:Bool}
structure Bn(l:List Bool)where
 j:Nat
 o:List Nat
 eq:V o=VB (l.take (16*j))
 lo:o.length=j
 dg:Dg o
 le:16*j<=l.length+15
def Bn.next{l:List Bool}(x:Bn l)(h:16*x.j<l.length):Bn l:=⟨x.j+1,x.o++[wE l (16*x.j) 0],binary_step x.eq x.lo h,by simp[x.lo],x.dg.snoc (jT0 _ _ _),by omega⟩
theorem jU0{l:List Bool}{i k:Nat}(hk:k<16):wE l i k=wE l i (k+1)*2+(if decide (i+k<l.length)&&l.getD (i+k) false then 1 else 0):=by
 rw[chunk_step hk,Cf];by_cases h:i+k<l.length
 ·rw[dif_pos h,Bo h,Bool.true_and,Aj,Af h];cases l[i+k]<;>rfl
 ·rw[dif_neg h,Cl h];rfl
def zG0(l:List Bool)(i k:Nat):Bool:=decide (i+k<l.length)&&l.getD (i+k) false
theorem chunk_one{l:List Bool}{i k:Nat}(hk:k<16)(h:zG0 l i k=true):wE l i k=wE l i (k+1)*2+1:=by rw[jU0 hk];unfold zG0 at h;rw[h];rfl
theorem chunk_nil{l:List Bool}{i k:Nat}(hk:k<16)(h:zG0 l i k=false):wE l i k=wE l i (k+1)*2:=by rw[jU0 hk];unfold zG0 at h;rw[h];rfl
structure Bj where
 k:Nat
 le:k<=16
theorem bit_T{l:List Bool}{I k:Nat}(hk:1<=k)(h:(I:Int)+((k:Int)-1)<l.length/\l.getD ((I:Int)+((k:Int)-1)).toNat false=true):zG0 l I (k-1)=true:=by
 unfold zG0;rw[show((I:Int)+((k:Int)-1)).toNat=I+(k-1) by omega]at h;rw[h.2,Bo om];rfl
theorem bit_F{l:List Bool}{I k:Nat}(hk:1<=k)(h:(decide ((I:Int)+((k:Int)-1)<l.length)&&l.getD ((I:Int)+((k:Int)-1)).toNat false)=false):zG0 l I (k-1)=false:=by
 unfold zG0;rw[show((I:Int)+((k:Int)-1)).toNat=I+(k-1) by omega]at h;rw[show decide (I+(k-1)<l.length)=decide ((I:Int)+((k:Int)-1)<l.length)from decide_eq_decide.2 om];exact h
theorem Bn.all{l:List Bool}(x:Bn l)(h:l.length<=16*x.j):V x.o=VB l:=by rw[x.eq,Am h]
structure Nb(n:Int)where
 m:Int
 o:List Bool
 eq:VB o+m.natAbs*2^o.length=n.natAbs
 lo: -9223372036854775808<=m
 hi:m<=9223372036854775807
 ln:o.length<=64
theorem nb_bit(m:Int):(!decide (Int.tmod m 2=0))=(m.natAbs%2==1):=by
 have:(Int.tmod m 2).natAbs=m.natAbs%2:=by
  rw[Int.natAbs_tmod];rfl
 rw[Bool.eq_iff_iff,Bd,Av,beq_iff_eq,<-this];have h:(Int.tmod m 2).natAbs<2:=by rw[this];omega
 omega
theorem pD(m:Int):(Int.tdiv m 2).natAbs=m.natAbs/2:=by rw[Int.natAbs_tdiv];rfl
def Nb.next{n:Int}(x:Nb n)(h:x.o.length<=63):Nb n:=⟨Int.tdiv x.m 2,x.o++[!decide (Int.tmod x.m 2=0)],by
 rw[nb_bit,pD,Ae,List.length_singleton];exact ones_step x.eq rfl,by have:=pD x.m;have:=x.lo;have:=x.hi;omega,by have:=pD x.m;have:=x.lo;have:=x.hi;omega,by simp;omega⟩
theorem Nb.len{n:Int}(x:Nb n)(h:¬x.m=0)(h1: -9223372036854775808<=n)(h2:n<=9223372036854775807):x.o.length<=63:=by
 rcases Bm 63 x.o.length with h3|h3
 ·have h4:2^64<=2^x.o.length:=Cp om h3;have h5:1*2^x.o.length<=x.m.natAbs*2^x.o.length:=Bs _ om;have h6:=x.eq;omega
 ·exact h3
theorem Nb.fin{n:Int}(x:Nb n)(h:x.m=0):VB x.o=n.natAbs:=by rw[<-x.eq,h];simp
theorem Binary_ok(l:List Bool)(hl:l.length<=100000000):Fx 132 [.sl false 1 l bD false] (natD (VB l)):=by
 refine yM zO Tryz.func132 rfl rfl rfl rfl rfl rfl ?_;intros;refine zK 100 ?_;refine zK 200 ?_;refine yU 3 3 1 rfl ?_;refine zB (zK 300 ?_);refine zQ ?_;refine yB (ι:=Bn l) [0] [] 350 (fun x=>[(4,.v (.int .i64 (16*x.j:Nat))),(3,.own 200 1 (x.o.map nD))]) (fun x=>[(200,.row 3 1 (x.o.map nD).length)]) (fun x=>l.length+16-16*x.j) ⟨0,[],rfl,rfl,Dg.nil,by omega⟩ ?_;refine⟨⟨yK,yH,rfl,rfl⟩,fun x=>?_⟩;have hk:=x.le;have hk2:=x.lo;refine zB (zK 400 ?_);refine zX (fun c3=>?_) (fun c3=>?_)
 ·
  refine zJ (zA (zB (zQ (zK 600 ?_))));refine zB (zK 700 ?_);refine zQ ?_;refine yB (ι:=Bj) [0,3,4] [200] 750 (fun y=>[(6,.v (.int .i64 ((y.k:Int)-1))),(5,.v (.int .i64 (wE l (16*x.j) y.k:Nat)))]) (fun _=>[]) (fun y=>y.k) ⟨16,Ap _⟩ ?_;refine⟨⟨(by repeat(first|exact u19 (by rw[chunk_top];rfl)|refine⟨?_,?_⟩|exact lx)),yH,rfl,rfl⟩,fun y=>?_⟩;have hy:=y.le;have hy2:=jT0 l (16*x.j) y.k;refine zB (zK 800 ?_);refine zX (fun c7=>?_) (fun c7=>?_)
  ·
   refine zJ (zA (zB (zQ (zK 1000 ?_))));refine zK 1100 ?_;refine zX (fun c10=>?_) (fun c10=>?_)
   ·
    refine yO zO [] 1200 ?_;refine zL (zA (yO zO [] 1300 ?_));exact zR ⟨y.k-1,by omega⟩ ⟨(by repeat(first|exact u19 (by show(y.k:Int)-1-1=((y.k-1:Nat):Int)-1;omega)|exact u19 (by show _=((wE l (16*x.j) (y.k-1):Nat):Int);rw[chunk_one (k:=y.k-1) om (bit_T om c10),show y.k-1+1=y.k by omega];push_cast;rfl)|refine⟨?_,?_⟩|exact lx)),yH,rfl,rfl⟩ (by show y.k-1<y.k;omega)
   ·
    refine zJ (zL (zA (yO zO [] 1200 ?_)));exact zR ⟨y.k-1,by omega⟩ ⟨(by repeat(first|exact u19 (by show(y.k:Int)-1-1=((y.k-1:Nat):Int)-1;omega)|exact u19 (by show _=((wE l (16*x.j) (y.k-1):Nat):Int);rw[chunk_nil (k:=y.k-1) om (bit_F om c10),show y.k-1+1=y.k by omega];push_cast;rfl)|refine⟨?_,?_⟩|exact lx)),yH,rfl,rfl⟩ (by show y.k-1<y.k;omega)
  ·
   refine yF (zZ (yA (zW (zA (yO zO [] 1300 ?_)))));refine zL (zA (yO zO [] 1400 ?_));obtain⟨ky,hky⟩:=y;have hz:ky=0:=by simp only at c7;omega
   subst hz;exact zR (x.next (by omega)) ⟨(by repeat(first|exact u19 (by show((16*x.j:Nat):Int)+16=((16*(x.j+1):Nat):Int);omega)|exact Sub.own (by show _=List.map nD (x.o++[_]);rw[Ad];rfl)|refine⟨?_,?_⟩|exact lx)),(by repeat(first|exact trivial|exact u13 rfl|exact⟨rfl,rfl,by show _=(List.map nD (x.o++[_])).length;simp⟩|refine⟨?_,?_⟩)),rfl,rfl⟩ (by show l.length+16-16*(x.j+1)<l.length+16-16*x.j;omega)
 ·
  refine yF (zZ (yA (zW (zA ?_))));refine jJ [] [] 410 [(3,.sl false 1 x.o nD 0)] [] ?_;refine⟨⟨⟨u3 rfl,trivial⟩,yH,rfl,rfl⟩,?_⟩;refine zB (zE zO [] 1400 rfl ?_);refine zF ?_;refine zS _ (vO _ x.dg (by rw[hk2];omega)) rfl ?_;refine zf (zA (zN ?_));exact u1 rfl (u6 (by rw[x.all om]))
theorem kW(n:Int)(h1: -9223372036854775808<=n)(h2:n<=9223372036854775807):Fx 77 [.v (.int .i64 n)] (.agg [.v (.bool (decide (n<0))),natD n.natAbs]):=by
 refine yM zO Tryz.func77 rfl rfl rfl rfl rfl rfl ?_;intros;refine zK 100 ?_;refine zK 200 ?_;refine yU 3 4 1 rfl ?_;refine zK 300 ?_;refine zB (zQ ?_);refine yB (ι:=Nb n) [2,4] [0] 350 (fun x=>[(0,.v (.int .i64 x.m)),(3,.own 200 1 (x.o.map bD))]) (fun x=>[(200,.row 4 1 (x.o.map bD).length)]) (fun x=>x.m.natAbs) ⟨n,[],by simp[VB],h1,h2,by simp⟩ ?_;refine⟨⟨yK,yH,rfl,rfl⟩,fun x=>?_⟩;have hk:=x.lo;have hk2:=x.hi;refine zB (zK 400 ?_);refine zX (fun c3=>?_) (fun c3=>?_)
 ·
  refine zJ (zA (zQ ?_));refine zB (zE zO [] 500 rfl ?_);repeat(first|refine zH ?_|refine zU (by first|exact trivial|omega|exact ini (by omega) (by omega)|(intro hh;simp at hh;exact ini om om)|(intro hh;simp at hh⊢;omega)|(simp at*;omega)|(simp_all;done)|(have h3:=x.len c3 h1 h2;simp only[Ao,Ak,Au];omega)) ?_)
  refine zC (zA ?_);refine zE zO [] 600 rfl ?_;repeat(first|refine zH ?_|refine zU (by first|exact trivial|omega|exact ini (by omega) (by omega)|(intro hh;simp at hh;exact ini om om)|(intro hh;simp at hh⊢;omega)|(simp at*;omega)|(simp_all;done)|(have h3:=pD x.m;exact⟨by decide,ini om om⟩)) ?_)
  refine zC (zL ?_);exact zR (x.next (x.len c3 h1 h2)) ⟨(by repeat(first|exact Sub.own (by show _=List.map bD (x.o++[_]);rw[Ad];rfl)|refine⟨?_,?_⟩|exact lx)),(by repeat(first|exact trivial|exact u13 rfl|exact⟨rfl,rfl,by show _=(List.map bD (x.o++[_])).length;simp⟩|refine⟨?_,?_⟩)),rfl,rfl⟩ (by show(Int.tdiv x.m 2).natAbs<x.m.natAbs;have:=pD x.m;omega)
 ·
  refine yF (zZ (yA (zW (zA ?_))));refine jJ [2,4] [0] 410 [(3,.sl false 1 x.o bD false)] [] ?_;refine⟨⟨⟨u3 rfl,by repeat(first|exact trivial|exact u0 _|refine⟨?_,?_⟩)⟩,yH,rfl,rfl⟩,?_⟩;refine zB (zE zO [] 700 rfl ?_);refine zF ?_;refine zS _ (Binary_ok _ (by have:=x.ln;omega)) rfl ?_;refine zf (zA (zN ?_));exact u1 rfl (SubP.agg ⟨u4 _,u6 (by rw[x.fin om]),trivial⟩)
variable{md me:Bool}
theorem gD0{l:List Nat}(h:Lg l)(i:Nat):l.getD i 0<4294967296:=by
 rcases Bm i l.length with h1|h1
 ·rw[vM h1];exact h.at h1
 ·rw[Aj,Dc h1];show 0<_;omega
theorem dW{b:Bool}{l:List Nat}(hg:Lg l)(h:uM b l=true):l=lim (VL l)/\b=decide (ZI b (VL l)<0)/\l.length<=128:=by
 unfold uM at h;rw[Ah,Cc,Ah,Ah,Ai,Ai,Ai,Ai]at h;obtain⟨h1,h2⟩:=h;rcases h2 with⟨h2,h3⟩|⟨h2,h3⟩
 ·have hl:l=[]:=Ax h2;subst hl;have hb:b=false:=by simpa using h3
  subst hb;exact⟨by rw[gJ0,jT],rfl,Aq _⟩
 ·have hn:tP l:=fun hne=>by
   rw[List.getLast_eq_getElem]
   rwa[vM om]at h3
  have hv:=(lim_V hg hn).symm;refine⟨hv,?_,h1⟩;have hp:0<VL l:=by
   rcases Bp (VL l)with h0|h0
   ·rw[h0,jT]at hv;rw[hv]at h2;exact absurd h2 de
   ·exact h0
  unfold ZI
  cases b
  ·simp
  ·simp;omega
theorem lim_nil{n:Nat}:lim n=[]↔n=0:=by
 constructor
 ·intro h;rcases Bp n with h0|h0
  ·exact h0
  ·rw[xM om]at h;cases h
 ·rintro rfl;exact jT
theorem dig_len{n:Nat}:(decide ((0:Int)<((dig n).length:Nat)))=decide (0<n):=by
 apply decide_eq_decide.2;constructor
 ·intro h;rcases Bp n with h0|h0
  ·rw[h0,jM]at h;exact absurd h de
  ·exact h0
 ·intro h;have:dig n≠[]:=fun e=>by rw[dig_eq_nil]at e;omega
  have:=List.length_pos_iff.2 this;omega
theorem xO0(z:Int):ZI (decide (z<0)) z.natAbs=z:=by
 unfold ZI;by_cases h:z<0
 ·rw[Bo h,Ag rfl];omega
 ·rw[Cl h,Aa de];omega
def plB(b1:Bool)(n1:Nat)(b2:Bool)(n2:Nat):Bool×Nat:=if b1=b2 then(b1,n1+n2)else if n2<=n1 then(b1,n1-n2)else(b2,n2-n1)
variable{md me:Bool}
def iV(x:Bool×List Nat):List D:=[.v (.bool x.1),usD x.2]
def faD(c i:Int):D:= .agg [.v (.int .i64 c),.v (.int .i64 i)]
theorem bS(c i:Int):Fx 121 [.v (.int .i64 c),.v (.int .i64 i)] (faD c i):=by
 refine yM zO Tryz.func121 rfl rfl rfl rfl rfl rfl ?_;intros;refine zK 100 ?_;refine zK 200 ?_;refine zN ?_;exact u1 rfl (u4 _)
theorem pG(b:Bool)(l:List Nat)(hl:l.length<=2000000):Fx 123 [.agg [.v (.bool b),usD l]] (.v (.bool (uM b l))):=by
 refine yM zO Tryz.func123 rfl rfl rfl rfl rfl rfl ?_;intros;refine zK 100 ?_;refine zK 200 ?_;refine zB (zE zO [] 300 rfl ?_);repeat(first|refine zH ?_|refine zU (by first|exact trivial|omega|exact ini (by omega) (by omega)|(intro hh;simp at hh;exact ini om om)|(intro hh;simp at hh⊢;omega)|(simp at*;omega)|(simp_all;done)|(intros;exact ini om om)) ?_)
 refine zC (zA (zN ?_));exact u1 rfl (u5 (by rw[<-cN]))
theorem intCheck_ok(L:List (Bool×List Nat))(hv:∀k<L.length,uM (L.getD k (false,[])).1 (L.getD k (false,[])).2=true/\(L.getD k (false,[])).2.length<=2000000)(hl:L.length<=100):Fx 120 [.sl false 2 L iV (false,[])] (faD 0 0):=by
 refine yM zO Tryz.func120 rfl rfl rfl rfl rfl rfl ?_;intros;refine zK 100 ?_;refine zB (zK 200 ?_);refine zQ ?_;refine yB (ι:={k:Nat//k<=L.length}) [2,5,6] [0] 250 (fun x=>[(7,.v (.int .i64 x.1))]) (fun _=>[]) (fun x=>L.length-x.1) ⟨0,Aq _⟩ ?_;refine⟨⟨yK,yH,rfl,rfl⟩,fun x=>?_⟩;have hk:x.1<=L.length:=x.2;refine zK 300 ?_;refine zB (zX (fun c2=>?_) (fun c2=>?_))
 ·
  refine zJ (zA (zB (zQ (zK 400 ?_))));refine zB (zE zO [] 500 rfl ?_);refine zF ?_;refine zS _ (pG _ _ ao) rfl ?_;refine zF ?_;refine zC (zA (zX (fun c4=>?_) (fun c4=>?_)))
  ·
   exact Bool.noConfusion (c4.symm.trans (hv x.1 om).1)
  ·
   refine zJ (zL (zA (yO zO [] 700 ?_)));exact zR (⟨x.1+1,by omega⟩) ⟨⟨u19 (by push_cast;rfl),yK⟩,yH,rfl,rfl⟩ (by show L.length-(x.1+1)<L.length-x.1;omega)
 ·
  refine yF (zZ (yA (zW (zA (zK 800 ?_)))));refine zN ?_;exact u1 rfl (u4 _)
theorem gU(l:List Nat)(hl:l.length<=2000000):FnO Tryz.prog 58 [usD l] 101 1 (l.map uD):=by
 refine pI Tryz.func58 rfl rfl rfl rfl rfl rfl ?_;intros;refine zB (zE zO [5] 100 rfl ?_);repeat(first|refine zH ?_|refine zU (by exact qO hl) ?_)
 refine zC (zA (zB (zB ?_)));refine uJ Tryz.underlying25 rfl rfl rfl fun c hc=>?_;refine zA (zT rfl (fun c1=>?_) (fun c1=>?_))
 ·
  refine zB (zE zO [5] 300 rfl ?_);repeat(first|refine zH ?_|refine zU (by exact qO hl) ?_)
  refine zC (zA (zN (zM ?_)));exact FinO.nil rfl (by rw[hc c1];rfl)
 ·
  refine zJ (zA ?_);refine zB (zE zO [5] 400 rfl ?_);repeat(first|refine zH ?_|refine zU (by first|rfl|exact qO hl|(rw[Au];have:=qO (f:=uD) hl;omega)|(have:=qO (f:=uD) hl;simp at this⊢;omega)) ?_)
  refine zC (zA (zN ?_));exact FinO.ret rfl rfl rfl rfl
variable{md me:Bool}
theorem vD0{α:Type}{f:α->List D}{l:List α}{k:Nat}(e:α)(h:k<l.length):(l.take (k+1)).map f=(l.take k).map f++[f (l.getD ((k:Nat):Int).toNat e)]:=by
 rw[List.take_add_one,Af h,Ad,As,Aj,Af h];rfl
theorem gR0{α:Type}{l:List α}{k:Nat}(h:k<l.length):(l.take (k+1)).length=(l.take k).length+1:=by
 rw[At,At];omega
theorem wC0{α:Type}{l:List α}{k:Nat}(e:α)(h:k<l.length):l.getD ((k:Nat):Int).toNat e∈l:=by
 rw[As,Aj,Af h];exact Di _
theorem ob_own(o:Ob)(a b c d e:Nat):D.pvs [.v (.int .i64 o.kind),.v (.string o.name),.v (.int .i64 o.cls),.own a 1 (o.refs.map iD),.own b 1 (o.order.map iD),.own c 1 (o.names.map sD),.own d 7 (o.items.map vlD),.own e 7 (o.keys.map vlD),.v (.int .i64 o.code),.v (.int .i64 o.state)]=D.pvs (obD o):=by
 simp only[obD,D.pvs,D.pv,yJ,Bz];rfl
theorem pvss_snoc{a:List (List D)}{r:List D}:D.pvss (a++[r])=D.pvss a++[D.pvs r]:=by rw[yJ,yJ,Ad];rfl
theorem zE0(l:List Vl)(hl:l.length<=2000000)(hv:∀v∈l,VlIn v):FnO Tryz.prog 21 [vsD l] 29 7 (l.map vlD):=by
 refine pI Tryz.func21 rfl rfl rfl rfl rfl rfl ?_;intros;refine zK 100 ?_;refine zK 200 ?_;refine yU 3 29 7 rfl ?_;refine zB (zK 300 ?_);refine zQ ?_;refine yB (ι:={k:Nat//k<=l.length}) [6,7] [] 350 (fun x=>[(8,.v (.int .i64 x.1)),(3,.own 200 7 ((l.take x.1).map vlD))]) (fun x=>[(200,.row 29 7 ((l.take x.1).map vlD).length)]) (fun x=>l.length-x.1) ⟨0,Aq _⟩ ?_;refine⟨⟨yK,yH,rfl,rfl⟩,fun x=>?_⟩;have hk:x.1<=l.length:=x.2;refine zK 400 ?_;refine zB (zX (fun c3=>?_) (fun c3=>?_))
 ·
  refine zJ (zA (zB (zQ ?_)));have hvk:VlIn (l.getD ((x.1:Nat):Int).toNat vl0):=hv _ (wC0 vl0 c3);refine zK 500 ?_;refine zB (yE zO [15,19] [[],[0],[0,1],[0,1,2],[],[4],[4,5],(rgN 7),(rgN 7),[0,1,2,3,4,5,6,8],(rgN 10),(rgN 11),(rgN 12),(rgN 13)] 600 yX kr rfl ?_);refine zF ?_;refine qZ _ _ _ (gU _ hvk.nn) ?_;refine zF ?_;refine qZ _ _ _ (gU _ hvk.dn) ?_;refine zf (zA ?_);refine zE zO [] 700 rfl ?_;repeat(first|refine zH ?_|refine zU (by first|rfl|(simp only[Ao,At,Ak,Au];omega)|exact Dl) ?_)
  refine zC (zL (zA (yO zO [] 800 ?_)));exact zR (⟨x.1+1,by omega⟩) ⟨⟨u19 (by push_cast;rfl),Sub.ownRows (by rw[vD0 vl0 c3];exact(RowsP.refl _).append ⟨⟨u4 _,u4 _,SubP.ownSl rfl,u4 _,SubP.ownSl rfl,u4 _,u4 _,trivial⟩,trivial⟩),yK⟩,⟨⟨rfl,rfl,by simp only[Ae,Ao];rw[gR0 c3];rfl⟩,yH⟩,rfl,rfl⟩ (by show l.length-(x.1+1)<l.length-x.1;omega)
 ·
  refine yF (zZ (yA (zW (zA (zK 900 ?_)))));refine zN ?_;have e:l.take x.1=l:=Am om;exact FinO.ret rfl rfl (by rw[e]) (by rw[e])
theorem kV0(h:List Ob)(hh:HpIn h):FnG Tryz.prog 7 [hpD md h] [] (.agg [.mo 0 h.length]) [.mrow 36 10 (.map h obD ob0)]:=by
 have hhl:=hh.len;refine pJ zO Tryz.func7 rfl rfl rfl rfl rfl rfl rfl ?_;intros;refine zK 100 ?_;refine zK 200 ?_;refine dZ 100 0 36 10 rfl rfl ?_;refine zB ?_;refine wO0 200 rfl ?_;refine zK 300 ?_;refine zQ ?_;refine yB (ι:={k:Nat//k<=h.length}) [2,3,7,8] [1] 350 (fun x=>[(9,.v (.int .i64 x.1))]) (fun x=>[(100,.box 24 [.mo 200 (h.take x.1).length]),(200,.mrow 36 10 (.map (h.take x.1) obD ob0))]) (fun x=>h.length-x.1) ⟨0,Aq _⟩ ?_;refine⟨⟨yK,⟨⟨rfl,Sub.mo rfl,rfl,trivial⟩,SubO.mr rfl,yH⟩,rfl,rfl⟩,fun x=>?_⟩;have hk:x.1<=h.length:=x.2;refine zK 400 ?_;refine zB (zX (fun c3=>?_) (fun c3=>?_))
 ·
  refine zJ (zA (zB (zQ ?_)));have hob:ObIn (h.getD ((x.1:Nat):Int).toNat ob0):=hh.ob _ (wC0 ob0 c3);refine zK 500 ?_;refine zB (yE zO [15,18,21] mK8 600 yX kr rfl ?_);refine zF ?_;refine qZ _ _ _ (gV _ hob.rl) ?_;refine zF ?_;refine qZ _ _ _ (gV _ hob.ol) ?_;refine zF ?_;refine qZ _ _ _ (zL0 _ hob.nl) ?_;refine zf (zA ?_);refine zB (yE zO [27,30] mK9 700 yX kr rfl ?_);refine zF ?_;refine qZ _ _ _ (zE0 _ hob.il hob.iv) ?_;refine zF ?_;refine qZ _ _ _ (zE0 _ hob.kl hob.kv) ?_;refine zf (zA ?_);refine zE zO [] 800 rfl ?_;repeat(first|refine zH ?_|refine zU (by first|rfl|(simp only[MR.len,At,Ak,Au];have:=hh.len;omega)|exact Dl) ?_)
  refine zC (zL (zA (yO zO [] 900 ?_)));exact zR (⟨x.1+1,by omega⟩) ⟨⟨u19 (by push_cast;rfl),yK⟩,⟨⟨rfl,Sub.mo (by rw[gR0 c3];rfl),rfl,trivial⟩,SubO.mp (by show D.pvss (List.map obD _++[_])=D.pvss (List.map obD _);rw[vD0 ob0 c3,pvss_snoc,pvss_snoc,ob_own]),yH⟩,rfl,rfl⟩ (by show h.length-(x.1+1)<h.length-x.1;omega)
 ·
  refine yF (zZ (yA (zW (zA (zK 1000 ?_)))));refine zN ?_;have e:h.take x.1=h:=Am om;exact FinH.ret 200 rfl rfl (by rw[e];exact u0 _) ⟨SubO.mr (by rw[e]),trivial⟩
variable{md me:Bool}
def hpO(h:List Ob):List DOwn:=[.box 24 [.mo 1 h.length],.mrow 36 10 (.map h obD ob0)]
theorem vl_own(v:Vl)(a b:Nat):D.pvs [.v (.int .i64 v.k),.v (.bool v.nn),.own a 1 (v.nl.map uD),.v (.bool v.dn),.own b 1 (v.dl.map uD),.v (.string v.s),.v (.int .i64 v.r)]=D.pvs (vlD v):=by
 simp only[vlD,D.pvs,D.pv,yJ,Bz];rfl
theorem upd_same{α:Type}{f:α->List D}{e:α}{l:List α}{k:Nat}{r:List D}(hk:k<l.length)(hr:D.pvs r=D.pvs (f (l.getD ((k:Nat):Int).toNat e))):D.pvss ((l.map f).set ((k:Nat):Int).toNat r)=D.pvss (l.map f):=by
 rw[As]at*;rw[yJ,yJ,List.map_set,hr];apply List.ext_getElem?;intro i;rw[List.getElem?_set];by_cases h:k=i
 ·subst h;simp[hk,Aj]
 ·simp[h]
theorem app_ob{h:List Ob}{o:Ob}{r:List D}(hr:D.pvs r=D.pvs (obD o)):D.pvss (h.map obD++[r])=D.pvss ((h++[o]).map obD):=by rw[Ad,pvss_snoc,hr];exact pvss_snoc.symm
theorem uJ0(l:List Vl)(hl:l.length<=2000000):FnG Tryz.prog 56 [vsD l] [] (.mo 0 l.length) [.mrow 29 7 (.map l vlD vl0)]:=by
 refine pJ zO Tryz.func56 rfl rfl rfl rfl rfl rfl rfl ?_;intros;refine zB (zE zO [] 100 rfl ?_);repeat(first|refine zH ?_|refine zU (by exact qO hl) ?_)
 refine zC (zA (zB (zB ?_)));refine uJ Tryz.underlying32 rfl rfl rfl fun c hc=>?_;refine zA (zT rfl (fun c1=>?_) (fun c1=>?_))
 ·
  refine zB (zE zO [] 300 rfl ?_);repeat(first|refine zH ?_|refine zU (by exact qO hl) ?_)
  refine zC (zA ?_);refine yU 2 29 7 rfl ?_;refine wO0 300 rfl ?_;refine zN (zM ?_);obtain rfl:=hc c1;exact FinH.ret 300 rfl rfl (u0 _) ⟨SubO.mr rfl,trivial⟩
 ·
  refine zJ (zA ?_);refine zB (zE zO [1005] 400 rfl ?_);repeat(first|refine zH ?_|refine zU (by first|rfl|exact qO hl|(simp only[MR.len,Au,Ao];omega)) ?_)
  refine zC (zA (zN ?_));exact FinH.ret 100 rfl rfl (Sub.mo (by rw[Ao,Bv])) ⟨SubO.mr rfl,trivial⟩
theorem mA0{P:Program}{E:Pn}{K:DS->Prop}{p:Prop}{r:Out}(hr:r.sat P E K)(hp:p:=by first|exact⟨rfl,by show _<l.length;omega⟩|rfl|exact Dl):(Out.need p r).sat P E K:=⟨hp,hr⟩
theorem gI(l:List Vl)(hl:l.length<=2000000)(hv:∀v∈l,VlIn v):FnO Tryz.prog 157 [vsD l] 29 7 (l.map vlD):=by
 refine pI Tryz.func157 rfl rfl rfl rfl rfl rfl ?_;intros;refine zK 100 ?_;refine zB (zE zO [1006] 200 rfl ?_);refine zF ?_;refine vS _ _ (uJ0 l hl) rfl ?_;refine zF ?_;refine zC (zA (zB (zK 300 ?_)));refine zQ ?_;refine yB (ι:={k:Nat//k<=l.length}) [3,8] [] 350 (fun x=>[(9,.v (.int .i64 x.1))]) (fun x=>[(101,.mrow 29 7 (.map l vlD vl0))]) (fun x=>l.length-x.1) ⟨0,Aq _⟩ ?_;refine⟨⟨yK,yH,rfl,rfl⟩,fun x=>?_⟩;have hk:x.1<=l.length:=x.2;refine zK 400 ?_;refine zB (zX (fun c3=>?_) (fun c3=>?_))
 ·
  refine zJ (zA (zB (zQ ?_)));have hvk:VlIn (l.getD ((x.1:Nat):Int).toNat vl0):=hv _ (wC0 vl0 c3);refine zK 500 ?_;refine yE zO [22,29] [[],[],[],[],[],[],[4,5],[4,5,6],[4,5,6,7],[4,5,6,7,8],[4,5,6,7,8,9],[],[],[11,12],[11,12,13],[11,12,13,14],[11,12,13,14,15],[4,5,6,7,8,9,10,11,12,13,14,15,16],[0,1,4,5,6,7,8,9,10,11,12,13,14,15,16,17],[0,1,4,5,6,7,8,9,10,11,12,13,14,15,16,17,18],[0,1,4,5,6,7,8,9,10,11,12,13,14,15,16,17,18,19],[0,1,4,5,6,7,8,9,10,11,12,13,14,15,16,17,18,19,20],(rgN 22),(rgN 23),(rgN 24),(rgN 25)] 600 yX kr rfl ?_;repeat(first|refine zH ?_|refine mA0 ?_)
  refine qZ _ _ _ (gU _ hvk.nn) ?_;repeat(first|refine zH ?_|refine mA0 ?_)
  refine qZ _ _ _ (gU _ hvk.dn) ?_;repeat(first|refine zH ?_|refine mA0 ?_)
  refine zC (zL (zA (yO zO [] 700 ?_)));exact zR (⟨x.1+1,by omega⟩) ⟨⟨u19 (by push_cast;rfl),yK⟩,⟨SubO.mp (by show D.pvss (((l.map vlD).set _ _).set _ _)=_;rw[List.set_set];exact upd_same c3 (vl_own _ _ _)),yH⟩,rfl,rfl⟩ (by show l.length-(x.1+1)<l.length-x.1;omega)
 ·
  refine yF (zZ (yA (zW (zA ?_))));refine pN 101 rfl (by repeat(first|exact trivial|exact rfl|refine⟨?_,?_⟩)) (by repeat(first|exact trivial|refine⟨?_,?_⟩)) ?_;refine zK 800 ?_;refine zN ?_;exact FinO.ret rfl rfl rfl rfl
theorem heapClone_ok(o:Ob)(ho:ObIn o):Fx 116 [.agg (obD o)] (.agg (obD o)):=by
 refine yM zO Tryz.func116 rfl rfl rfl rfl rfl rfl ?_;intros;refine zK 100 ?_;refine zB (yE zO [5,8,11] mK8 200 yX kr rfl ?_);refine zF ?_;refine qZ _ _ _ (gV _ ho.rl) ?_;refine zF ?_;refine qZ _ _ _ (gV _ ho.ol) ?_;refine zF ?_;refine qZ _ _ _ (zL0 _ ho.nl) ?_;refine zf (zA ?_);refine zB (yE zO [17,20] mK9 300 yX kr rfl ?_);refine zF ?_;refine qZ _ _ _ (gI _ ho.il ho.iv) ?_;refine zF ?_;refine qZ _ _ _ (gI _ ho.kl ho.kv) ?_;refine zF ?_;refine zC (zA (zK 400 ?_));refine zN ?_;exact u1 rfl (SubP.agg ⟨u4 _,u4 _,u4 _,SubP.ownSl rfl,SubP.ownSl rfl,SubP.ownSl rfl,SubP.ownSl rfl,SubP.ownSl rfl,u4 _,u4 _,trivial⟩)
theorem kZ0{P:Program}{E:Pn}{K:DS->Prop}{p:Prop}{r:Out}(hr:r.sat P E K)(hp:p:=by first|rfl|exact⟨rfl,by simp only[MR.len,Ao];omega⟩|exact⟨rfl,by simp[MR.len];omega⟩|(simp only[MR.len,Ao,Ae,List.length_singleton];omega)|(simp[MR.len];exact ini om om)|exact Dl):(Out.need p r).sat P E K:=⟨hp,hr⟩
theorem heapNew_G(h:List Ob)(o:Ob)(hh:h.length<=4000000)(ho:ObIn o):FnG Tryz.prog 63 [.bp 0 0,.agg (obD o)] (hpO h) (.v (.int .i64 (h.length:Nat))) (hpO (h++[o])):=by
 refine pJ zO Tryz.func63 rfl rfl rfl rfl rfl rfl rfl ?_;intros;refine zK 100 ?_;refine zB (yE zO [] [[],[],[1],[1,2],[1,2,3],[],[5],[5,6],[1,2,3,4,5,6,7],(rgN 9),(rgN 10),(rgN 11)] 200 yX kr rfl ?_);repeat(first|refine zH ?_|refine kZ0 ?_)
 refine zS _ (heapClone_ok _ ao) rfl ?_;repeat(first|refine zH ?_|refine kZ0 ?_)
 refine zC (zA ?_);refine zB (zE zO [] 300 rfl ?_);repeat(first|refine zH ?_|refine kZ0 ?_)
 refine zC (zA (zN ?_));exact FinH.ret 2 rfl rfl (u19 (by simp)) ⟨⟨rfl,Sub.mo (by simp),rfl,trivial⟩,SubO.mp (app_ob rfl),trivial⟩
variable{md me:Bool}
def ownB(o:Ob)(s:ByteArray):Bool:=decide (0<=ixI o.names s)
def ownV(o:Ob)(s:ByteArray):Vl:=if ixI o.names s<0 then vl0 else o.items.getD (ixI o.names s).toNat vl0
def fdO(h:List Ob)(l:List Int)(s:ByteArray):Option Int:=l.find? fun c=>ownB (yV h c) s
def fdV(h:List Ob)(s:ByteArray):Option Int->Vl
 |some c=>ownV (yV h c) s
 |none=>vl0
variable{md me:Bool}
def spS(h:List Ob)(v:Vl)(s:ByteArray):Vl×List Vl×Bool:=
 if ¬(yD h v).kind=10 then(vl0,[],false)
 else if(fdO h (yV h (yD h v).cls).order s).isSome=false then(vl0,[],false)
 else if gH0 h (fdV h s (fdO h (yV h (yD h v).cls).order s))=true then(fdV h s (fdO h (yV h (yD h v).cls).order s),[v],true)
 else if(yD h (fdV h s (fdO h (yV h (yD h v).cls).order s))).kind=13 then((yD h (fdV h s (fdO h (yV h (yD h v).cls).order s))).items.getD 0 vl0,[],true)
 else if(yD h (fdV h s (fdO h (yV h (yD h v).cls).order s))).kind=14 then((yD h (fdV h s (fdO h (yV h (yD h v).cls).order s))).items.getD 0 vl0,[rfV (yD h v).cls],true)
 else(fdV h s (fdO h (yV h (yD h v).cls).order s),[],true)
section
variable{P:Program}{b:Ba}{ops:Array Oper}
end
def ArgS:List D->List D->Prop
 |[],[]=>True
 |d::l,d'::l'=>Sub d d'/\ArgS l l'
 |_,_=>False
theorem ArgS.all{w:World}{s:Sb}{g:Gh}:∀{l l':List D}{vs:List Value},ArgS l l'->AllT w s g (D.tvl l) vs->AllT w s g (D.tvl l') vs
 |[],[],_,_,h=>h
 |d::l,d'::l',[],_,h=>by rw[D.tvl]at h;simp[AllT]at h
 |d::l,d'::l',v::vs,h,hv=>by
  rw[D.tvl,AllT.cons]at hv;rw[D.tvl,AllT.cons];exact⟨h.1 _ _ _ _ hv.1,h.2.all hv.2⟩
 |[],_::_,_,h,_=>h.elim
 |_::_,[],_,h,_=>h.elim
theorem FnG.args{P:Program}{f:FuncId}{args args':List D}{own own':List DOwn}{out:D}(h:FnG P f args own out own')(hs:ArgS args' args):FnG P f args' own out own':=
 ⟨h.bod,fun w s g vs hg ha=>h.run w s g vs hg (hs.all ha)⟩
variable{md me:Bool}
def caI(f:Vl)(l:List Vl):St:=⟨2,vl0,0,ByteArray.empty,f,l⟩
variable{md me:Bool}
end Go.Proofs.YtmakjjodkiedmaaGreatDoor
/-
  DERIVED:THE SHELF's CONTRACTS AT THIS DUMP,IN PLAIN WORDS (tools/lay-plain.mjs out of 'YtmakjjodkiedmaaGreatDoorShelf3.lean',which tools/lay-shelf.mjs wrote):THE SAME DECLARATIONS UNDER THE SAME NAMES:'import','namespace','open','def','theorem' AND NOTHING ELSE:no command of the shelf's:FOR A HAND-IN. Each laying:the table of numbers ('.._ren') and one theorem,a field a fact of the dump's own or the kernel's comparison;each contract:ONE APPLICATION.
-/
namespace Go.Proofs
open Go.Shelf
def Tryz.laysGrowV_ren:Go.Shelf.Ren:=⟨fun|4=>114|n=>n,fun|22=>32|25=>29|3=>3|4=>4|9=>9|20=>20|0=>0|n=>n,fun|n=>n⟩
theorem Tryz.laysGrowV:Go.Proofs.Lays8.n4 Tryz.prog Tryz.laysGrowV_ren:={
 mixed:=by kernel_rfl
 f4:=⟨Tryz.f114.name,by decide,Tryz.func114.trans (congrArg some (by kernel_rfl))⟩
 t0:=Tryz.underlying0
 a0:=Tryz.isAgg0
 z0:=Tryz.sizeOf0
 v0:=Tryz.zeroValue0
 t3:=Tryz.underlying3
 a3:=Tryz.isAgg3
 z3:=Tryz.sizeOf3
 v3:=Tryz.zeroValue3
 t4:=Tryz.underlying4
 a4:=Tryz.isAgg4
 z4:=Tryz.sizeOf4
 v4:=Tryz.zeroValue4
 t9:=Tryz.underlying9
 a9:=Tryz.isAgg9
 z9:=Tryz.sizeOf9
 v9:=Tryz.zeroValue9
 t20:=Tryz.underlying20
 a20:=Tryz.isAgg20
 z20:=Tryz.sizeOf20
 v20:=Tryz.zeroValue20
 t22:=Tryz.underlying32
 a22:=Tryz.isAgg32
 z22:=Tryz.sizeOf32
 v22:=Tryz.zeroValue32}
end Go.Proofs
namespace Go.Proofs.YtmakjjodkiedmaaGreatDoor
open Go.RowKit Go.Shelf
theorem grow_O{P:Program}{f:FuncId}{e:TypeId}{sz:Nat}(hb:Bod P f)(n:Nat)
  (h0:n=0->∀w,Calls P f #[.slice none 0 0,.int .i64 n] w fun r w'=>r= .returned (.slice none 0 0)/\w'=w)
  (h1:0<n->∀w:World,Calls P f #[.slice none 0 0,.int .i64 n] w fun r w'=>∃(cur:Array Value)(G:Nat),r= .returned (.slice (some ⟨w.heap.size,0,none⟩) 0 G)/\w'=w.drew.alloc (.cells cur e)/\cur.size=G*sz/\G<=maxLen):
  FnO P f [.v (.slice none 0 0),.v (.int .i64 n)] e sz []:=by
 refine⟨hb,fun w s vs hlt _ hv=>?_⟩
 match vs,hv with
 |[a,b],⟨ha,hb',_⟩=>
  have ha:a= .slice none 0 0:=ha;have hb':b= .int .i64 n:=hb';subst ha hb';rcases Bp n with hn|hn
  ·refine(h0 hn w).mono fun r w' hq=>?_;obtain⟨rfl,rfl⟩:=hq;refine⟨s,⟨fun _=>none,fun k m=>if k=0/\m=0 then some (.slice none 0 0)else none⟩,0,.slice none 0 0,rfl,?_,⟨fun m hm=>?_,_,rfl,.inl ⟨rfl,rfl⟩⟩,fun N hN=>?_,⟨Ex.refl _ _,hlt,rfl,rfl,rfl,Ap _,fun _ _=>rfl,fun _ _ h=> .inl h,fun _ _ h=> .inl h⟩⟩
   ·rw[TV.P];exact⟨⟨none,0,rfl,Ap _,by omega,(fun _ h=>by cases h),fun i row h=>by simp[D.pvss]at h⟩,rfl⟩
   ·have hm:0<m:=hm;exact Aa om
   ·cases hN
  ·refine(h1 hn w).mono fun r w' hq=>?_;obtain⟨cur,G,rfl,rfl,hc,hG⟩:=hq;have hnew:(w.drew.alloc (.cells cur e)).heap[w.heap.size]?=some (.cells cur e (0,0)):=heap_alloc_new w.drew _;have hold:∀N,N<w.heap.size->(w.drew.alloc (.cells cur e)).heap[N]?=w.heap[N]?:=fun N hN=>heap_alloc_old w.drew _ hN;have hsz:(w.drew.alloc (.cells cur e)).heap.size=w.heap.size+1:=by
    show(w.drew.heap.push _).size=_;rw[Array.size_push];rfl
   refine⟨s,⟨fun _=>none,fun k m=>if k=0/\m=0 then some (.slice (some ⟨w.heap.size,0,none⟩) 0 G)else none⟩,0,.slice (some ⟨w.heap.size,0,none⟩) 0 G,rfl,?_,⟨fun m hm=>?_,_,rfl,.inr ⟨w.heap.size,G,cur,rfl,.of hnew,Aq _,hG,hc,fun o _ h=>?_⟩⟩,fun N hN=>?_,⟨⟨fun _ _ h=>h,fun b o hs=>uO (hold b (hlt b o hs)),fun _ _ h=>h⟩,fun B o h=>?_,rfl,rfl,rfl,by omega,hold,fun _ _ h=> .inl h,fun _ _ h=> .inl h⟩⟩
   ·rw[TV.P];exact⟨⟨_,G,rfl,Aq _,by unfold maxLen at hG;omega,(fun _ h=>by cases h),fun i row h=>by simp[D.pvss]at h⟩,rfl⟩
   ·have hm:0<m:=hm;exact Aa om
   ·have:=hlt _ _ h;omega
   ·have hN:some w.heap.size=some N:=hN
    cases hN;exact Ap _
   ·have:=hlt B o h;omega
theorem GrowV_ok(n:Nat)(hn:n<=100000000):FnO Tryz.prog 114 [.v (.slice none 0 0),.v (.int .i64 n)] 29 7 []:=by
 refine grow_O ⟨_,Tryz.func114,rfl,rfl⟩ n (fun h w=>?_) fun h w=>?_
 ·subst h;exact Any8.slices_Grow_room Tryz.laysGrowV none 0 0 0 w om om om om
 ·obtain⟨ie,z,hu,hi,hz,hsz,hzc,hs0,hb0,hb1⟩:=(wF (yC (t:=32) zO (show fnd 32 TT=some (.sl 29 7) by rfl))).2.2.h
  have hx:=Any8.slices_Grow_grow Tryz.laysGrowV ie z hi hz om none 0 0 n [] w (Ap _) om (by
   have:=Nat.mul_le_mul (show 0+n<=100000000 by omega) hb1;omega) om (by simp) (fun _=>rfl) (fun _ h=>by cases h)
  refine hx.mono fun r w' hq=>?_;obtain⟨rfl,rfl⟩:=hq;have hG:n<=grownCap w (0+n) 0 (Tryz.laysGrowV_ren.t 25):=Bg om (grownCap_ge w (0+n) 0 _);refine⟨_,_,rfl,rfl,?_,grownCap_le_maxLen w _ _ _ (by unfold maxLen;omega)⟩;simp only[Array.size_append,Br,Au,size_zeroCells,hzc];omega
open Go.RowKit
variable{md me:Bool}
def st0:St:=⟨0,vl0,0,ByteArray.empty,vl0,[]⟩
def stsD(l:List St):D:= .sl false 18 l stD st0
def vssD(l:List (List Vl)):D:= .sl false 1 l (fun x=>[vsD x]) []
def ctL(L:List (List Vl))(k:Nat):List Vl:=(L.take k).flatten
theorem pU{L:List (List Vl)}{k:Nat}(h:k<L.length):ctL L (k+1)=ctL L k++L.getD k []:=by
 unfold ctL;rw[List.take_add_one,Af h,List.flatten_append,Aj,Af h];simp
theorem xE0(L:List (List Vl))(k:Nat):(ctL L k).length<=(ctL L L.length).length:=by
 unfold ctL;rw[List.take_length]
 conv=>rhs;rw[<-Da k L,List.flatten_append,Ae]
 omega
theorem ConcatV_ok(L:List (List Vl))(hl:(ctL L L.length).length<=100000000)(hL:L.length<=1000):FnO Tryz.prog 60 [vssD L] 29 7 ((ctL L L.length).map vlD):=by
 refine pI Tryz.func60 rfl rfl rfl rfl rfl rfl ?_;intros;refine zK 100 ?_;refine zK 200 ?_;refine zB (zK 300 ?_);refine zQ ?_;refine yB (ι:={k:Nat//k<=L.length}) [0,9,10] [] 350 (fun x=>[(3,.v (.int .i64 ((ctL L x.1).length:Nat))),(11,.v (.int .i64 x.1))]) (fun _=>[]) (fun x=>L.length-x.1) ⟨0,Aq _⟩ ?_;refine⟨⟨yK,yH,rfl,rfl⟩,fun x=>?_⟩;have hk:x.1<=L.length:=x.2;have hf:=xE0 L (x.1+1);have hn:∀h:x.1<L.length,(ctL L (x.1+1)).length=(ctL L x.1).length+(L.getD ((x.1:Nat):Int).toNat []).length:=fun h=>by rw[pU h,Ae];rfl
 have hf0:=xE0 L x.1;refine zK 400 ?_;refine zB (zX (fun c3=>?_) (fun c3=>?_))
 ·
  refine zJ (zA (zB (zQ (zK 500 ?_))));refine zB (zE zO [] 600 rfl ?_);repeat(first|refine zH ?_|refine zU (by first|(have h9:=hn c3;exact ini om om)|exact Dl) ?_)
  refine zC (zA (zK 700 ?_));refine zX (fun c6=>?_) (fun c6=>?_)
  ·
   omega
  ·
   refine zJ (zL (zA (yO zO [] 900 ?_)));exact zR (⟨x.1+1,by omega⟩) ⟨⟨u19 (by rw[pU c3,Ae];push_cast;rfl),u19 (by push_cast;rfl),yK⟩,yH,rfl,rfl⟩ (by show L.length-(x.1+1)<L.length-x.1;omega)
 ·
  refine yF (zZ (yA (zW (zA ?_))));refine zB (zE zO [24] 1000 rfl ?_);refine zF ?_;refine qZ _ _ _ (GrowV_ok _ (by have:=xE0 L x.1;omega)) ?_;refine zF ?_;refine zC (zA (zB (zK 1100 ?_)));refine zQ ?_;refine yB (ι:={k:Nat//k<=L.length}) [25,26] [] 1150 (fun y=>[(27,.v (.int .i64 y.1)),(6,.own 401 7 ((ctL L y.1).map vlD))]) (fun y=>[(401,.row 29 7 ((ctL L y.1).map vlD).length)]) (fun y=>L.length-y.1) ⟨0,Aq _⟩ ?_;refine⟨⟨yK,yH,rfl,rfl⟩,fun y=>?_⟩;have hky:y.1<=L.length:=y.2;have hfy:=xE0 L (y.1+1);have hfy0:=xE0 L y.1;have hny:∀h:y.1<L.length,(ctL L (y.1+1)).length=(ctL L y.1).length+(L.getD ((y.1:Nat):Int).toNat []).length:=fun h=>by rw[pU h,Ae];rfl
  refine zK 1200 ?_;refine zB (zX (fun c11=>?_) (fun c11=>?_))
  ·
   refine zJ (zA (zB (zQ (zK 1300 ?_))));refine zE zO [] 1400 rfl ?_;repeat(first|refine zH ?_|refine zU (by first|(have:=hny c11;simp only[Ao];omega)|exact Dl) ?_)
   refine zC (zL (zA (yO zO [] 1500 ?_)));exact zR (⟨y.1+1,by omega⟩) ⟨⟨u19 (by push_cast;rfl),Sub.own (by rw[pU c11,Ad];rfl),yK⟩,⟨⟨rfl,rfl,by show _=(List.map vlD (ctL L (y.1+1))).length;rw[pU c11];simp⟩,yH⟩,rfl,rfl⟩ (by show L.length-(y.1+1)<L.length-y.1;omega)
  ·
   refine yF (zZ (yA (zW (zA (zK 1600 ?_)))));refine zN ?_;have e:y.1=L.length:=by omega
   exact FinO.ret rfl rfl (by rw[e]) (by rw[e])
variable{md me:Bool}
def rD(b:Bool)(n:Nat):D:= .agg [.v (.bool b),natD n]
theorem kT0{a b:Nat}(h:0<=cmpN a b):b<=a:=by
 rcases Bm a b with h1|h1
 ·rw[jO0 h1]at h;omega
 ·exact h1
theorem cmp_le{a b:Nat}(h:¬0<=cmpN a b):a<=b:=by
 rcases Bm b a with h1|h1
 ·rw[zF0 h1]at h;omega
 ·exact h1
theorem cmp_nge{a b:Nat}(h:¬0<=cmpN a b):¬b<=a:=fun h1=>by
 rcases Bm b a with h2|h2
 ·rw[zF0 h2]at h;omega
 ·rw[xG0 om]at h;omega
theorem IntOf3_ok(b:Bool)(l:List Nat)(hg:Lg l)(hl:l.length<=100000000):Fx 78 [.agg [.v (.bool b),usD l]] (rD b (VL l)):=by
 refine yM zO Tryz.func78 rfl rfl rfl rfl rfl rfl ?_;intros;refine zK 100 ?_;refine zB (yE zO [] [[],[0],[],[2],[2,3],(rgN 5),(rgN 6)] 200 yX kr rfl ?_);refine zF ?_;refine zS _ (xR0 _ ao ao) rfl ?_;refine zf (zA (zN ?_));exact u1 rfl (u4 _)
theorem IntPlus_ok(b1 b2:Bool)(n1 n2:Nat)(h1:(dig n1).length<=100000000)(h2:(dig n2).length<=100000000):Fx 80 [rD b1 n1,rD b2 n2] (rD (plB b1 n1 b2 n2).1 (plB b1 n1 b2 n2).2):=by
 refine yM zO Tryz.func80 rfl rfl rfl rfl rfl rfl ?_;intros;refine zK 100 ?_;refine zB (zQ (zK 200 ?_));refine zX (fun c1=>?_) (fun c1=>?_)
 ·
  refine zB (yE zO [] mK4 300 yX kr rfl ?_);refine zF ?_;refine zS _ (uI0 n1 n2 h1 h2) rfl ?_;refine zf (zA (zN (zP (zM ?_))));exact u1 rfl (u6 (by rw[plB,Ag (by simpa using c1)];rfl))
 ·
  refine zB (zE zO [] 400 rfl ?_);refine zF ?_;refine zS _ (uU _ _ ao ao) rfl ?_;refine zF ?_;refine zC (zA (zX (fun c3=>?_) (fun c3=>?_)))
  ·
   refine zB (yE zO [] mK4 500 yX kr rfl ?_);refine zF ?_;refine zS _ (gS n1 n2 (kT0 om) h1) rfl ?_;refine zf (zA (zN (zP (zM ?_))));exact u1 rfl (u6 (by rw[plB,Aa (by simpa using c1),Ag (kT0 om)];rfl))
  ·
   refine zJ (zL (zA ?_));refine zB (yE zO [] mK4 600 yX kr rfl ?_);refine zF ?_;refine zS _ (gS n2 n1 (cmp_le om) h2) rfl ?_;refine zf (zA (zN ?_));exact u1 rfl (u6 (by rw[plB,Aa (by simpa using c1),Aa (cmp_nge om)];rfl))
theorem xS0(v:Vl)(hg:Lg v.nl)(hl:v.nl.length<=100000000):Fx 38 [.agg (vlD v)] (rD v.nn (VL v.nl)):=by
 refine yM zO Tryz.func38 rfl rfl rfl rfl rfl rfl ?_;intros;refine zK 100 ?_;refine zB (zE zO [] 200 rfl ?_);refine zF ?_;refine zS _ (IntOf3_ok _ _ ao ao) rfl ?_;refine zf (zA (zN ?_));exact u1 rfl (u4 _)
theorem opValue_ok(v:Vl):Fx 30 [.agg (vlD v)] (.agg (stD (vlS v))):=by
 refine yM zO Tryz.func30 rfl rfl rfl rfl rfl rfl ?_;intros;refine zK 100 ?_;refine zK 200 ?_;refine zN ?_;exact u1 rfl (SubP.agg nq9)
theorem wT(c:Int)(s:ByteArray):Fx 43 [.v (.int .i64 c),.v (.string s)] (.agg (stD (raS c s))):=by
 refine yM zO Tryz.func43 rfl rfl rfl rfl rfl rfl ?_;intros;refine zK 100 ?_;refine zK 200 ?_;refine zN ?_;exact u1 rfl (SubP.agg nq9)
variable{md me:Bool}




variable{md me:Bool}
theorem lim_top{x:Nat}(h:0<(lim x).length):(lim x).getD ((lim x).length-1) 0≠0:=by
 have h1:=lim_noLead x (List.length_pos_iff.1 h)
 rwa[List.getLast_eq_getElem,<-vM om]at h1


variable{md me:Bool}
theorem w64{n:Nat}(h:n<18446744073709551616):IntKind.u64.wrap (n:Int)=(n:Int):=by
 simp only[IntKind.wrap,IntKind.signed,IntKind.bits,Bool.false_and,Bw,if_false];omega
theorem or64{h l:Nat}(hh:h<4294967296)(hl:l<4294967296):bOr .u64 (IntKind.u64.wrap (IntKind.u64.wrap (h:Int)*2^min (Int.toNat 32) IntKind.u64.bits)) (IntKind.u64.wrap (l:Int))=((h*4294967296+l:Nat):Int):=by
 rw[show((2:Int)^min (Int.toNat 32) IntKind.u64.bits)=((4294967296:Nat):Int) by decide,w64 (n:=h) om,w64 (n:=l) om,<-Int.natCast_mul,w64 (n:=h*4294967296) om];show IntKind.u64.wrap ((BitVec.ofInt 64 ((h*4294967296:Nat):Int)|||BitVec.ofInt 64 ((l:Nat):Int)).toNat:Int)=_;rw[BitVec.ofInt_natCast,BitVec.ofInt_natCast,BitVec.toNat_or,BitVec.toNat_ofNat,BitVec.toNat_ofNat,Nat.mod_eq_of_lt om,Nat.mod_eq_of_lt om];have e:=Nat.two_pow_add_eq_or_of_lt (i:=32) (b:=l) (by simpa using hl) h;rw[show(2:Nat)^32=4294967296 by decide,Cf 4294967296 h]at e;rw[<-e,w64 om]
variable{md me:Bool}


variable{md me:Bool}
theorem or64r{h l:Nat}(hh:h<4294967296)(hl:l<4294967296):bOr .u64 (IntKind.u64.wrap (l:Int)) (IntKind.u64.wrap (IntKind.u64.wrap (h:Int)*2^min (Int.toNat 32) IntKind.u64.bits))=((l+4294967296*h:Nat):Int):=by
 have e:=or64 hh hl;rw[show l+4294967296*h=h*4294967296+l by omega,<-e];unfold bOr;rw[BitVec.or_comm]
variable{md me:Bool}
abbrev zV(z:Int):List D:=iV (decide (z<0),lim z.natAbs)
theorem zOk{z:Int}(h:(lim z.natAbs).length<=128):uM (decide (z<0)) (lim z.natAbs)=true:=by
 unfold uM;rw[Ah,Cc,Ah,Ah,Ai,Ai,Ai,Ai];refine⟨h,?_⟩;rcases Bp (lim z.natAbs).length with h0|h0
 ·refine Or.inl ⟨h0,?_⟩;have h1:=lim_nil.1 (Ax h0);have h2:z=0:=by omega
  subst h2;rfl
 ·exact Or.inr ⟨h0,lim_top h0⟩
variable{md me:Bool}
variable{md me:Bool}
structure KD(U V H u2 v1 v2:Nat)where
 E:Nat
 u':Nat
 v':Nat
 hU:U=H*(4294967296*E)+u2*E+u'
 hV:V=v1*(4294967296*E)+v2*E+v'
 lu:u'<E
 lv:v'<E
 lu2:u2<4294967296
 lv2:v2<4294967296
 lv1:0<v1
 lt:U<V*4294967296
section
variable{U V H u2 v1 v2:Nat}(K:KD U V H u2 v1 v2)
include K
end


section
variable{u v:List Nat}{m n:Nat}
end
variable{md me:Bool}
variable{md me:Bool}
variable{md me:Bool}


variable{md me:Bool}
variable{md me:Bool}
variable{md me:Bool}
variable{md me:Bool}
theorem plB_Z(b1:Bool)(n1:Nat)(b2:Bool)(n2:Nat):ZI (plB b1 n1 b2 n2).1 (plB b1 n1 b2 n2).2=ZI b1 n1+ZI b2 n2:=by
 unfold plB;by_cases h:b1=b2
 ·subst h;rw[Ag rfl]
  cases b1<;>unfold ZI<;>simp<;>omega
 ·rw[Aa h];by_cases h2:n2<=n1
  ·rw[Ag h2]
   cases b1<;>cases b2<;>unfold ZI<;>simp at* <;>omega
  ·rw[Aa h2]
   cases b1<;>cases b2<;>unfold ZI<;>simp at* <;>omega
theorem plB_le(b1:Bool)(n1:Nat)(b2:Bool)(n2:Nat):(plB b1 n1 b2 n2).2<=n1+n2:=by
 unfold plB;split
 ·exact Ap _
 ·split
  ·show n1-n2<=n1+n2;omega
  ·show n2-n1<=n1+n2;omega
theorem dig_addL{x y k:Nat}(hx:(dig x).length<=k)(hy:(dig y).length<=k):(dig (x+y)).length<=k+1:=by
 have h1:=Cr (jN0 x) (Cp de hx);have h2:=Cr (jN0 y) (Cp de hy);refine qL ?_;rw[Cs];generalize 65536^k=B at*;omega
theorem dig_plB{b1 b2:Bool}{x y k:Nat}(hx:(dig x).length<=k)(hy:(dig y).length<=k):(dig (plB b1 x b2 y).2).length<=k+1:=Bg (yW (plB_le _ _ _ _)) (dig_addL hx hy)
theorem tH(n:Nat):(0<((dig n).length:Int))↔0<n:=by
 have:=dig_len (n:=n);rw[Bool.eq_iff_iff,Ai,Ai]at this;exact this


variable{md me:Bool}
variable{md me:Bool}
variable{md me:Bool}
def Rv(h:List Ob)(v:Vl):Prop:=v.k=6->qA h v.r=true
section
variable{h:List Ob}{F G:Vl->Vl->Bool}
end
def Vd(h:List Ob)(v:Vl):Prop:=yR v=true/\Rv h v
section
variable{h:List Ob}{x y:Ob}{i:Nat}(hi:i<y.keys.length)
include hi
end
variable{md me:Bool}
theorem uQ(h:List Ob)(v:Vl)(hv:v.k=6->qA h v.r=true):Fx 28 [hpD md h,.agg (vlD v)] (.agg (obD (yD h v))):=by
 refine yM zO Tryz.func28 rfl rfl rfl rfl rfl rfl ?_;intros;refine zK 100 ?_;refine zB (zK 200 ?_);refine zX (fun c1=>?_) (fun c1=>?_)
 ·
  refine zK 300 ?_;refine zN (zM ?_);have e:yD h v=ob0:=objS_no c1;rw[e];exact u1 rfl (by repeat(first|exact trivial|exact u4 _|exact u10 rfl|refine SubP.agg ?_|refine⟨?_,?_⟩))
 ·
  refine zJ (zA ?_);refine zB (zE zO [] 400 rfl ?_);repeat(first|refine zH ?_|refine zU (by exact jU (hv c1)) ?_)
  refine zC (zA (zN ?_));have e:yD h v=h.getD v.r.toNat ob0:=pC hv c1;rw[e];exact u1 rfl (by repeat(first|exact trivial|exact u4 _|exact u10 rfl|refine SubP.agg ?_|refine⟨?_,?_⟩))
variable{md me:Bool}
variable{md me:Bool}
theorem uX0{h:List Ob}{n:Nat}{o:Ob}{row:List D}(hr:D.pvs row=D.pvs (obD o)):D.pvss ((h.map obD).set n row)=D.pvss ((h.set n o).map obD):=by
 rw[yJ,yJ,List.map_set,hr,Bz,Bz,List.map_set];rfl
theorem keys_le{h:List Ob}(g:Uh h)(v:Vl):(yD h v).keys.length<=1000/\(yD h v).items.length<=1000:=by
 by_cases hk:(yD h v).kind=0
 ·unfold yD at hk⊢;split
  ·rename_i h1;have:=h1.2;simp only[qA,Ah,Bd,Av]at this;rw[Ag h1]at hk;exact absurd hk this.2
  ·exact⟨by decide,by decide⟩
 ·obtain⟨h6,ho,e⟩:=pB (h:=h) (v:=v) hk;rw[e];have hin:=jU ho;by_cases h49:v.r.toNat<49
  ·rw[show yV h v.r=bgO v.r.toNat from g.lo_at h49];exact⟨Aq _,Aq _⟩
  ·have u:=g.hi_at (i:=v.r.toNat) om hin.2;rw[<-obAt_nat hin]at u;have hz:=u.sizes;unfold wB at hz;split at hz
   ·cases hz
   ·split at hz
    ·cases hz
    ·rename_i h2;simp only[Cc,Ai,not_or]at h2;obtain⟨h3,h4⟩:=h2;unfold mx3 at h3;repeat' split at h3
     all_goals omega
theorem chk_hp(s:St)(h:List Ob):chkG 2 (.agg (stD s)) (hpO h)=true:=rfl
section
variable{h:List Ob}(g:Uh h)
include g
end
variable{md me:Bool}
variable{md me:Bool}
def mF0:ByteArray:=⟨#[111,110,95,110,101,120,116]⟩
def nnB:ByteArray:=⟨#[39,32,105,115,32,110,111,116,32,97,110,32,105,116,101,114,97,116,111,114]⟩
def nnN(h:List Ob)(v:Vl):ByteArray:=(⟨#[39]⟩:ByteArray)++(yV h (clA h v)).name++nnB
def nx0(h:List Ob)(v:Vl):St:=if(yD h v).kind=17 then caI v []else if(spS h v mF0).2.2=true then caI (spS h v mF0).1 (spS h v mF0).2.1 else raS 32 (nnN h v)
section
variable{h:List Ob}{v:Vl}
end


variable{md me:Bool}
def cmpI(a b:Int):Int:=if a<b then-1 else if b<a then 1 else 0
theorem or_nn{a b:Nat}(ha:0<a)(hb:0<b):cmpN b a=cmpI (ZI true a) (ZI true b):=by
 unfold cmpN cmpI ZI;simp only[if_true];split<;>(try split)<;>(try split)<;>(try split)<;>omega
theorem uF0{b:Bool}{n:Nat}(h:¬(b=true/\0<n)):ZI b n=n:=by
 cases b with
 |false=>rfl
 |true=>
  have:n=0:=by simp at h;omega
  subst this;rfl
theorem or_pp{a b:Nat}:cmpN a b=cmpI (a:Int) (b:Int):=by
 unfold cmpN cmpI;split<;>(try split)<;>(try split)<;>(try split)<;>omega
theorem or_np{a b:Nat}(ha:0<a): -1=cmpI (ZI true a) (b:Int):=by
 unfold cmpI ZI;simp only[if_true];split<;>omega
theorem or_pn{a b:Nat}(hb:0<b):1=cmpI (a:Int) (ZI true b):=by
 unfold cmpI ZI;simp only[if_true];split<;>(try split)<;>omega
theorem dF(b c:Bool)(n m:Nat)(h1:(dig n).length<=1000000)(h2:(dig m).length<=1000000):Fx 76 [rD b n,rD c m] (.v (.int .i64 (cmpI (ZI b n) (ZI c m)))):=by
 have hz1:=tH n;have hz2:=tH m;refine yM zO Tryz.func76 rfl rfl rfl rfl rfl rfl ?_;intros;refine zK 100 ?_;refine zB (yE zO [] [[],[0],[0,1],[0,1,2],[0,1,2,3],(rgN 5),(rgN 6),(rgN 7),[],[8],[0,1,2,8,9],[0,1,2,8,9,10],[0,1,2,8,9,10,11],[0,1,2,8,9,10,11,12],[0,1,2,8,9,10,11,12,13],[0,1,2,8,9,10,11,12,13,14],(rgN 11),(rgN 17)] 200 yX kr rfl ?_);refine zF ?_;refine zC (zA (zB (zQ (zK 300 ?_))));refine zT rfl (fun c2=>?_) (fun c2=>?_)
 ·have c2:(b=true/\0<n)/\(c=true/\0<m):=by
   have h9:=c2;simp at h9;exact⟨⟨h9.1.1,by omega⟩,h9.2.1,by omega⟩
  refine zB (zE zO [] 400 rfl ?_);refine zF ?_;refine zS _ (uU m n om om) rfl ?_;refine zf (zA (zN (zP (zM ?_))));obtain⟨⟨rfl,k2⟩,rfl,k4⟩:=c2;exact u1 rfl (u7 (or_nn k2 k4))
 ·have c2:¬((b=true/\0<n)/\(c=true/\0<m)):=by
   have h9:=c2;simp at h9;rintro⟨⟨k1,k2⟩,k3,k4⟩;have e:=h9 k1 om k3;rw[e]at hz2;exact absurd (hz2.2 k4) de
  refine zK 500 ?_;refine zT rfl (fun c4=>?_) (fun c4=>?_)
  ·have c4:b=true/\0<n:=by
    have h9:=c4;simp at h9;exact⟨h9.1,by omega⟩
   refine zK 600 ?_;refine zN (zP (zM ?_));obtain⟨rfl,k2⟩:=c4;exact u1 rfl (u7 (by rw[uF0 (fun h=>c2 ⟨⟨rfl,k2⟩,h⟩)];exact or_np k2))
  ·have c4:¬(b=true/\0<n):=by
    have h9:=c4;simp at h9;rintro⟨k1,k2⟩;have e:=h9 k1;rw[e]at hz1;exact absurd (hz1.2 k2) de
   refine zK 700 ?_;refine zT rfl (fun c6=>?_) (fun c6=>?_)
   ·have c6:c=true/\0<m:=by
     have h9:=c6;simp at h9;exact⟨h9.1,by omega⟩
    refine zK 800 ?_;refine zN (zP (zM ?_));obtain⟨rfl,k2⟩:=c6;exact u1 rfl (u7 (by rw[uF0 c4];exact or_pn k2))
   ·have c6:¬(c=true/\0<m):=by
     have h9:=c6;simp at h9;rintro⟨k1,k2⟩;have e:=h9 k1;rw[e]at hz2;exact absurd (hz2.2 k2) de
    refine zJ (zL (zA ?_));refine zB (zE zO [] 900 rfl ?_);refine zF ?_;refine zS _ (uU n m om om) rfl ?_;refine zf (zA (zN ?_));exact u1 rfl (u7 (by rw[uF0 c4,uF0 c6];exact or_pp))
theorem mU0{l:List Nat}(hg:Lg l):(dig (VL l)).length<=2*l.length:=qL (by
 have:=L_lt hg;rw[Nat.pow_mul];exact this)
end Go.Proofs.YtmakjjodkiedmaaGreatDoor
